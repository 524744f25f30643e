import Derived.Test.YtjnnjciedbgmiaaAbM1
/- Contracts, printed by this session's own program gen.py. -/
set_option linter.unusedVariables false
set_option linter.unusedSimpArgs false
set_option maxRecDepth 100000
namespace Go.Proofs.Ytjnnjciedbgmiaa.Ab
open Go.RowKit Go.Proofs.YtjnnjciedbgmiaaW.PrintWords
abbrev Y2_0 : Type := Int × Int × Int × Int
abbrev Y2_1 : Type := Int × Int × Int × Bool
abbrev Y2_2 : Ty := .sl 41 (.pair (.int .i64) (.pair (.int .i64) (.pair (.int .i64) (.int .i64))))
abbrev Y2_3 : Type := (List Y2_0) → Int → Int → Int → Int → (List (Int × Int)) → (List Int) → (List Int) → Int → Int → Option (((Int × Int × List (Int × Int)) × Bool × Unit) × Unit)
abbrev Y2_4 : Type := (List Y2_0) → (List Int) → (List Int) → (List Y2_1) → Int → Option (((List Int) × Bool × Unit) × Unit)
abbrev Y2_5 : Type := (Bool × Unit) × Unit
abbrev Y2_6 : Ty := .pair (.int .i64) (.pair (.int .i64) (.pair (.int .i64) .bool))
abbrev Y2_7 : Type := ((Int × Int × List (Int × Int)) × Bool × Unit) × Unit
abbrev Y2_8 : Type := ((List Int) × Bool × Unit) × Unit
abbrev Y2_9 : Type := (List Y2_0) → (List Int) → (List Y2_1) → Int → Option (((List Int) × Unit) × Unit)
abbrev Y2_10 : Type := (List Y2_0) → (List Y2_1) → Int → Option Y2_5
abbrev Y2_11 : Type := (List Y2_0) → (List Y2_1) → (List Int) → Int → Option Y2_5
abbrev Y2_12 : Type := (Int × Unit) × Unit
abbrev Y2_13 : Type := ((List Int) × Unit) × Unit
abbrev Y2_14 : Type := (List Y2_0) → (List Y2_1) → Int → Int → Option Y2_5
abbrev Y2_15 : Ty := .pair (.int .i64) (.int .i64)
abbrev Y2_16 : Type := ((List Y2_1) × Unit) × Unit
abbrev Y2_17 : Type := Int × Int × (List (Int × Int)) × Unit
noncomputable abbrev P32 : List PT := [.val ⟨true, (.pair (.int .i64) (.pair (.int .i64) Y2_15)), false⟩]
noncomputable abbrev R32 : List RT := [.val ⟨false, .bool, true⟩]
noncomputable def S32 (k : Nat) (i : Int × Int × Int × Int) : Option Y2_5 :=
 (bif i.1 == 0 then
  (bif i.2.1 == 0 then
   (bif i.2.2.1 == 0 then
    some ((i.2.2.2 == 0, ()), ())
   else
    some ((false, ()), ()))
  else
   some ((false, ()), ()))
 else
  (bif i.1 == 11 then
   (bif i.2.1 == 0 then
    (bif i.2.2.1 == 0 then
     some ((i.2.2.2 == 0, ()), ())
    else
     some ((false, ()), ()))
   else
    some ((false, ()), ()))
  else
   (bif i.1 == 1 then
    (S51 k 8 i.2.1).bind fun q0 =>
    (bif q0.1.1 then
     (bif i.2.2.1 == 0 then
      (bif decide (i.2.2.2 ≥ (-2147483648)) then
       some ((decide (i.2.2.2 < 2147483648), ()), ())
      else
       some ((false, ()), ()))
     else
      some ((false, ()), ()))
    else
     some ((false, ()), ()))
   else
    (bif i.1 == 2 then
     (S51 k 8 i.2.1).bind fun q1 =>
     (bif q1.1.1 then
      (S51 k 8 i.2.2.1).bind fun q2 =>
      (bif q2.1.1 then
       some ((i.2.2.2 == 0, ()), ())
      else
       some ((false, ()), ()))
     else
      some ((false, ()), ()))
    else
     (bif i.1 == 3 then
      (S51 k 8 i.2.1).bind fun q3 =>
      (bif q3.1.1 then
       (S51 k 8 i.2.2.1).bind fun q4 =>
       (bif q4.1.1 then
        some ((i.2.2.2 == 0, ()), ())
       else
        some ((false, ()), ()))
      else
       some ((false, ()), ()))
     else
      (bif i.1 == 4 then
       (S51 k 8 i.2.1).bind fun q5 =>
       (bif q5.1.1 then
        (S51 k 8 i.2.2.1).bind fun q6 =>
        (bif q6.1.1 then
         some ((i.2.2.2 == 0, ()), ())
        else
         some ((false, ()), ()))
       else
        some ((false, ()), ()))
      else
       (bif i.1 == 5 then
        (S51 k 8 i.2.1).bind fun q7 =>
        (bif q7.1.1 then
         (bif i.2.2.1 == 0 then
          (bif decide (i.2.2.2 ≥ (-63)) then
           some ((decide (i.2.2.2 ≤ 63), ()), ())
          else
           some ((false, ()), ()))
         else
          some ((false, ()), ()))
        else
         some ((false, ()), ()))
       else
        (bif i.1 == 6 then
         (S51 k 8 i.2.1).bind fun q8 =>
         (bif q8.1.1 then
          (bif i.2.2.1 == 0 then
           (bif decide (i.2.2.2 ≥ 1) then
            some ((decide (i.2.2.2 ≤ 64), ()), ())
           else
            some ((false, ()), ()))
          else
           some ((false, ()), ()))
         else
          some ((false, ()), ()))
        else
         (bif i.1 == 7 then
          (S51 k 8 i.2.1).bind fun q9 =>
          (bif q9.1.1 then
           (bif i.2.2.1 == 0 then
            (bif decide (i.2.2.2 ≥ 1) then
             some ((decide (i.2.2.2 ≤ 24), ()), ())
            else
             some ((false, ()), ()))
           else
            some ((false, ()), ()))
          else
           some ((false, ()), ()))
         else
          (bif i.1 == 8 then
           (bif i.2.1 == 0 then
            (bif decide (i.2.2.1 ≥ 1) then
             (bif decide (i.2.2.1 ≤ 24) then
              (bif decide (i.2.2.2 ≥ 1) then
               some ((decide (i.2.2.2 ≤ 20), ()), ())
              else
               some ((false, ()), ()))
             else
              some ((false, ()), ()))
            else
             some ((false, ()), ()))
           else
            some ((false, ()), ()))
          else
           (bif i.1 == 9 then
            (bif decide (i.2.1 ≥ 0) then
             (bif decide (i.2.1 < 4) then
              (bif i.2.2.1 == 0 then
               some ((i.2.2.2 == 0, ()), ())
              else
               some ((false, ()), ()))
             else
              some ((false, ()), ()))
            else
             some ((false, ()), ()))
           else
            (bif i.1 == 10 then
             (bif decide (i.2.1 ≥ 0) then
              (bif decide (i.2.1 < 4) then
               (bif i.2.2.1 == 0 then
                some ((i.2.2.2 == 0, ()), ())
               else
                some ((false, ()), ()))
              else
               some ((false, ()), ()))
             else
              some ((false, ()), ()))
            else
             some ((false, ()), ())))))))))))))
noncomputable def E32 : Env := tab.env (lk [(51, F51)]) (hintL [])
theorem E32_ok : EnvOK Try.prog E32 := envOK_of tabOK _ _ (allFn_lk (l := [(51, F51)]) ⟨ok51, trivial⟩)
noncomputable def B32 (k : Nat) : Tbl (RD R32 × MD P32) := .nil
noncomputable def F32 : Fn := ⟨P32, R32, fun k x => S32 k x.1⟩
theorem ok32 : FnOK Try.prog 32 F32 := evalF_ok (E := E32) (T := B32) E32_ok mix Try.func32 rfl (by kernel_rfl) (by kernel_rfl) (fun k => by kernel_rfl) (fun k x => by kernel_rfl)
noncomputable abbrev P33 : List PT := [.val ⟨false, Y2_2, false⟩]
noncomputable abbrev R33 : List RT := [.val ⟨false, (.sl 68 Y2_6), true⟩]
noncomputable abbrev c33_L3 : Cut := ⟨[0, 3, 4], [.cell Y2_2, .own 68 Y2_6, .cell (.int .i64)], [], 49⟩
noncomputable def l33_3 (k : Nat) (g3 : (List Y2_0) → (List Y2_1) → Int → Option Y2_16) (l_1 : List Y2_0) (out : List Y2_1) (i : Int) : Option Y2_16 :=
 (bif decide (i < (l_1.length : Int)) then
  ix l_1 i <|
  (bif (rd l_1 i (0, 0, 0, 0)).1 == 7 then
   ix l_1 i <|
   ap out ([(IntKind.i64.wrap (i + 1), IntKind.i64.wrap (i + (rd l_1 i (0, 0, 0, 0)).2.2.2), i, false)] : List Y2_1) 32 fun r0 =>
   g3 l_1 r0 (IntKind.i64.wrap (i + 1))
  else
   (bif (rd l_1 i (0, 0, 0, 0)).1 == 8 then
    ix l_1 i <|
    ap out ([(IntKind.i64.wrap (i + 1), IntKind.i64.wrap (i + (rd l_1 i (0, 0, 0, 0)).2.2.1), i, true)] : List Y2_1) 32 fun r1 =>
    g3 l_1 r1 (IntKind.i64.wrap (i + 1))
   else
    g3 l_1 out (IntKind.i64.wrap (i + 1))))
 else
  some ((out, ()), ()))
noncomputable def b33_3 (k : Nat) (g : ((Unit) × (List Y2_0) × (List Y2_1) × Int × Unit) → Option Y2_16) (d : (Unit) × (List Y2_0) × (List Y2_1) × Int × Unit) : Option Y2_16 := l33_3 k (fun l_1 out i => g ((), l_1, out, i, ())) d.2.1 d.2.2.1 d.2.2.2.1
noncomputable def L33_3 (k : Nat) (j : Nat) (l_1 : List Y2_0) (out : List Y2_1) (i : Int) : Option Y2_16 := iter (R := ((List Y2_1) × Unit) × Unit) c33_L3 (b33_3 k) j ((), l_1, out, i, ())
theorem L33_3_s (k : Nat) (j : Nat) (l_1 : List Y2_0) (out : List Y2_1) (i : Int) : L33_3 k (j + 1) l_1 out i = l33_3 k (L33_3 k j) l_1 out i := iter_succ _ _ _ _
noncomputable def S33 (k : Nat) (l_ : List Y2_0) : Option Y2_16 :=
 L33_3 k k l_ ([] : List Y2_1) 0
noncomputable def E33 : Env := tab.env (lk []) (hintL [(3, 2)])
theorem E33_ok : EnvOK Try.prog E33 := envOK_of tabOK _ _ (fun f F h => by cases h)
noncomputable def B33 (k : Nat) : Tbl (RD R33 × MD P33) := (.loop 3 c33_L3 (b33_3 k) (fun g => .nil) .nil)
noncomputable def F33 : Fn := ⟨P33, R33, fun k x => S33 k x.1⟩
theorem ok33 : FnOK Try.prog 33 F33 := evalF_ok (E := E33) (T := B33) E33_ok mix Try.func33 rfl (by kernel_rfl) (by kernel_rfl) (fun k => by kernel_rfl) (fun k x => by kernel_rfl)
noncomputable abbrev P34 : List PT := [.val ⟨true, Y2_6, false⟩, .val ⟨false, (.int .i64), false⟩]
noncomputable abbrev R34 : List RT := [.val ⟨false, .bool, true⟩]
noncomputable def S34 (k : Nat) (a : Int × Int × Int × Bool) (i : Int) : Option Y2_5 :=
 (bif decide (a.1 ≤ i) then
  some ((decide (i ≤ a.2.1), ()), ())
 else
  some ((false, ()), ()))
noncomputable def E34 : Env := tab.env (lk []) (hintL [])
theorem E34_ok : EnvOK Try.prog E34 := envOK_of tabOK _ _ (fun f F h => by cases h)
noncomputable def B34 (k : Nat) : Tbl (RD R34 × MD P34) := .nil
noncomputable def F34 : Fn := ⟨P34, R34, fun k x => S34 k x.1 x.2.1⟩
theorem ok34 : FnOK Try.prog 34 F34 := evalF_ok (E := E34) (T := B34) E34_ok mix Try.func34 rfl (by kernel_rfl) (by kernel_rfl) (fun k => by kernel_rfl) (fun k x => by kernel_rfl)
noncomputable abbrev P20 : List PT := [.val ⟨false, Y2_2, false⟩]
noncomputable abbrev R20 : List RT := [.val ⟨false, (.sl 3 (.int .i64)), true⟩, .val ⟨false, .bool, true⟩]
noncomputable abbrev c20_L10 : Cut := ⟨[0, 4, 5, 6, 7, 8], [.cell Y2_2, .own 3 (.int .i64), .own 3 (.int .i64), .own 68 Y2_6, .cell (.int .i64), .cell (.int .i64)], [], 117⟩
noncomputable def l20_10 (k : Nat) (g5 : Y2_4) (g10 : (List Y2_0) → (List Int) → (List Int) → (List Y2_1) → Int → Int → Option Y2_8) (l_2 : List Y2_0) (out1 : List Int) (open_1 : List Int) (a1 : List Y2_1) (i1 : Int) (k_ : Int) : Option Y2_8 :=
 (bif decide (k_ < (open_1.length : Int)) then
  ix open_1 k_ <|
  ix l_2 (rd open_1 k_ 0) <|
  ix l_2 i1 <|
  (bif (rd l_2 (rd open_1 k_ 0) (0, 0, 0, 0)).2.1 == (rd l_2 i1 (0, 0, 0, 0)).2.1 then
   some (([], false, ()), ())
  else
   g10 l_2 out1 open_1 a1 i1 (IntKind.i64.wrap (k_ + 1)))
 else
  ap open_1 ([i1] : List Int) 8 fun r1 =>
  (bif decide ((r1.length : Int) > 2) then
   some (([], false, ()), ())
  else
   g5 l_2 out1 r1 a1 (IntKind.i64.wrap (i1 + 1))))
noncomputable def b20_10 (k : Nat) (g5 : Y2_4) (g : ((Unit) × (List Y2_0) × (List Int) × (List Int) × (List Y2_1) × Int × Int × Unit) → Option Y2_8) (d : (Unit) × (List Y2_0) × (List Int) × (List Int) × (List Y2_1) × Int × Int × Unit) : Option Y2_8 := l20_10 k g5 (fun l_2 out1 open_1 a1 i1 k_ => g ((), l_2, out1, open_1, a1, i1, k_, ())) d.2.1 d.2.2.1 d.2.2.2.1 d.2.2.2.2.1 d.2.2.2.2.2.1 d.2.2.2.2.2.2.1
noncomputable def L20_10 (k : Nat) (g5 : Y2_4) (j : Nat) (l_2 : List Y2_0) (out1 : List Int) (open_1 : List Int) (a1 : List Y2_1) (i1 : Int) (k_ : Int) : Option Y2_8 := iter (R := ((List Int) × Bool × Unit) × Unit) c20_L10 (b20_10 k g5) j ((), l_2, out1, open_1, a1, i1, k_, ())
theorem L20_10_s (k : Nat) (g5 : Y2_4) (j : Nat) (l_2 : List Y2_0) (out1 : List Int) (open_1 : List Int) (a1 : List Y2_1) (i1 : Int) (k_ : Int) : L20_10 k g5 (j + 1) l_2 out1 open_1 a1 i1 k_ = l20_10 k g5 (L20_10 k g5 j) l_2 out1 open_1 a1 i1 k_ := iter_succ _ _ _ _
noncomputable abbrev c20_L23 : Cut := ⟨[0, 4, 5, 6, 7, 9, 10], [.cell Y2_2, .own 3 (.int .i64), .own 3 (.int .i64), .own 68 Y2_6, .cell (.int .i64), .cell (.int .i64), .cell (.int .i64)], [], 117⟩
noncomputable def l20_23 (k : Nat) (g5 : Y2_4) (g23 : (List Y2_0) → (List Int) → (List Int) → (List Y2_1) → Int → Int → Int → Option Y2_8) (l_3 : List Y2_0) (out2 : List Int) (open_2 : List Int) (a2 : List Y2_1) (i2 : Int) (k_1 : Int) (n : Int) : Option Y2_8 :=
 (bif decide (n < (a2.length : Int)) then
  ix a2 n <|
  (S34 k (rd a2 n (0, 0, 0, false)) k_1).bind fun q2 =>
  ix a2 n <|
  (S34 k (rd a2 n (0, 0, 0, false)) i2).bind fun q3 =>
  (bif !(q2.1.1 == q3.1.1) then
   some (([], false, ()), ())
  else
   g23 l_3 out2 open_2 a2 i2 k_1 (IntKind.i64.wrap (n + 1)))
 else
  ix out2 k_1 <|
  g5 l_3 (upd out2 k_1 i2) open_2 a2 (IntKind.i64.wrap (i2 + 1)))
noncomputable def b20_23 (k : Nat) (g5 : Y2_4) (g : ((Unit) × (List Y2_0) × (List Int) × (List Int) × (List Y2_1) × Int × Int × Int × Unit) → Option Y2_8) (d : (Unit) × (List Y2_0) × (List Int) × (List Int) × (List Y2_1) × Int × Int × Int × Unit) : Option Y2_8 := l20_23 k g5 (fun l_3 out2 open_2 a2 i2 k_1 n => g ((), l_3, out2, open_2, a2, i2, k_1, n, ())) d.2.1 d.2.2.1 d.2.2.2.1 d.2.2.2.2.1 d.2.2.2.2.2.1 d.2.2.2.2.2.2.1 d.2.2.2.2.2.2.2.1
noncomputable def L20_23 (k : Nat) (g5 : Y2_4) (j : Nat) (l_3 : List Y2_0) (out2 : List Int) (open_2 : List Int) (a2 : List Y2_1) (i2 : Int) (k_1 : Int) (n : Int) : Option Y2_8 := iter (R := ((List Int) × Bool × Unit) × Unit) c20_L23 (b20_23 k g5) j ((), l_3, out2, open_2, a2, i2, k_1, n, ())
theorem L20_23_s (k : Nat) (g5 : Y2_4) (j : Nat) (l_3 : List Y2_0) (out2 : List Int) (open_2 : List Int) (a2 : List Y2_1) (i2 : Int) (k_1 : Int) (n : Int) : L20_23 k g5 (j + 1) l_3 out2 open_2 a2 i2 k_1 n = l20_23 k g5 (L20_23 k g5 j) l_3 out2 open_2 a2 i2 k_1 n := iter_succ _ _ _ _
noncomputable abbrev c20_L5 : Cut := ⟨[0, 4, 5, 6, 7], [.cell Y2_2, .own 3 (.int .i64), .own 3 (.int .i64), .own 68 Y2_6, .cell (.int .i64)], [], 117⟩
noncomputable def l20_5 (k : Nat) (g5 : Y2_4) (l_1 : List Y2_0) (out : List Int) (open_ : List Int) (a : List Y2_1) (i : Int) : Option Y2_8 :=
 (bif decide (i < (l_1.length : Int)) then
  ix l_1 i <|
  (bif (rd l_1 i (0, 0, 0, 0)).1 == 9 then
   L20_10 k g5 k l_1 out open_ a i 0
  else
   (bif (rd l_1 i (0, 0, 0, 0)).1 == 10 then
    (bif (open_.length : Int) == 0 then
     some (([], false, ()), ())
    else
     ix open_ (IntKind.i64.wrap ((open_.length : Int) - 1)) <|
     ix l_1 (rd open_ (IntKind.i64.wrap ((open_.length : Int) - 1)) 0) <|
     ix l_1 i <|
     (bif (rd l_1 (rd open_ (IntKind.i64.wrap ((open_.length : Int) - 1)) 0) (0, 0, 0, 0)).2.1 != (rd l_1 i (0, 0, 0, 0)).2.1 then
      some (([], false, ()), ())
     else
      ix open_ (IntKind.i64.wrap ((open_.length : Int) - 1)) <|
      sx open_ 0 (IntKind.i64.wrap ((open_.length : Int) - 1)) <|
      L20_23 k g5 k l_1 out (open_.take (IntKind.i64.wrap ((open_.length : Int) - 1)).toNat) a i (rd open_ (IntKind.i64.wrap ((open_.length : Int) - 1)) 0) 0))
   else
    g5 l_1 out open_ a (IntKind.i64.wrap (i + 1))))
 else
  (bif decide ((open_.length : Int) > 0) then
   some (([], false, ()), ())
  else
   some ((out, true, ()), ())))
noncomputable def b20_5 (k : Nat) (g : ((Unit) × (List Y2_0) × (List Int) × (List Int) × (List Y2_1) × Int × Unit) → Option Y2_8) (d : (Unit) × (List Y2_0) × (List Int) × (List Int) × (List Y2_1) × Int × Unit) : Option Y2_8 := l20_5 k (fun l_1 out open_ a i => g ((), l_1, out, open_, a, i, ())) d.2.1 d.2.2.1 d.2.2.2.1 d.2.2.2.2.1 d.2.2.2.2.2.1
noncomputable def L20_5 (k : Nat) (j : Nat) (l_1 : List Y2_0) (out : List Int) (open_ : List Int) (a : List Y2_1) (i : Int) : Option Y2_8 := iter (R := ((List Int) × Bool × Unit) × Unit) c20_L5 (b20_5 k) j ((), l_1, out, open_, a, i, ())
theorem L20_5_s (k : Nat) (j : Nat) (l_1 : List Y2_0) (out : List Int) (open_ : List Int) (a : List Y2_1) (i : Int) : L20_5 k (j + 1) l_1 out open_ a i = l20_5 k (L20_5 k j) l_1 out open_ a i := iter_succ _ _ _ _
noncomputable def S20 (k : Nat) (l_ : List Y2_0) : Option Y2_8 :=
 mk (l_.length : Int) (l_.length : Int) 8 <|
 (S33 k l_).bind fun q0 =>
 L20_5 k k l_ (List.replicate (l_.length : Int).toNat (0 : Int)) ([] : List Int) q0.1.1 0
noncomputable def E20 : Env := tab.env (lk [(33, F33), (34, F34)]) (hintL [(5, 2), (89, 1)])
theorem E20_ok : EnvOK Try.prog E20 := envOK_of tabOK _ _ (allFn_lk (l := [(33, F33), (34, F34)]) ⟨ok33, ok34, trivial⟩)
noncomputable def B20 (k : Nat) : Tbl (RD R20 × MD P20) := (.loop 5 c20_L5 (b20_5 k) (fun g => (fun (g5 : Y2_4) => (.loop 10 c20_L10 (b20_10 k g5) (fun g => .nil) (.loop 23 c20_L23 (b20_23 k g5) (fun g => .nil) .nil))) (fun l_1 out open_ a i => g ((), l_1, out, open_, a, i, ()))) .nil)
noncomputable def F20 : Fn := ⟨P20, R20, fun k x => S20 k x.1⟩
theorem ok20 : FnOK Try.prog 20 F20 := evalF_ok (E := E20) (T := B20) E20_ok mix Try.func20 rfl (by kernel_rfl) (by kernel_rfl) (fun k => by kernel_rfl) (fun k x => by kernel_rfl)
noncomputable abbrev P35 : List PT := [.val ⟨false, Y2_2, false⟩, .val ⟨false, (.sl 3 (.int .i64)), false⟩, .val ⟨false, (.int .i64), false⟩]
noncomputable abbrev R35 : List RT := [.val ⟨false, (.int .i64), true⟩]
noncomputable abbrev c35_L3 : Cut := ⟨[0, 1, 2, 7, 8], [.cell Y2_2, .cell (.sl 3 (.int .i64)), .cell (.int .i64), .cell (.int .i64), .cell (.int .i64)], [], 37⟩
noncomputable def l35_3 (k : Nat) (g3 : (List Y2_0) → (List Int) → Int → Int → Int → Option Y2_12) (l_1 : List Y2_0) (pairs1 : List Int) (i1 : Int) (n : Int) (k_ : Int) : Option Y2_12 :=
 (bif decide (k_ < (l_1.length : Int)) then
  ix l_1 k_ <|
  (bif (rd l_1 k_ (0, 0, 0, 0)).1 == 9 then
   (bif decide (k_ < i1) then
    ix pairs1 k_ <|
    (bif decide (i1 < (rd pairs1 k_ 0)) then
     g3 l_1 pairs1 i1 (IntKind.i64.wrap (n + 1)) (IntKind.i64.wrap (k_ + 1))
    else
     g3 l_1 pairs1 i1 n (IntKind.i64.wrap (k_ + 1)))
   else
    g3 l_1 pairs1 i1 n (IntKind.i64.wrap (k_ + 1)))
  else
   g3 l_1 pairs1 i1 n (IntKind.i64.wrap (k_ + 1)))
 else
  some ((n, ()), ()))
noncomputable def b35_3 (k : Nat) (g : ((Unit) × (List Y2_0) × (List Int) × Int × Int × Int × Unit) → Option Y2_12) (d : (Unit) × (List Y2_0) × (List Int) × Int × Int × Int × Unit) : Option Y2_12 := l35_3 k (fun l_1 pairs1 i1 n k_ => g ((), l_1, pairs1, i1, n, k_, ())) d.2.1 d.2.2.1 d.2.2.2.1 d.2.2.2.2.1 d.2.2.2.2.2.1
noncomputable def L35_3 (k : Nat) (j : Nat) (l_1 : List Y2_0) (pairs1 : List Int) (i1 : Int) (n : Int) (k_ : Int) : Option Y2_12 := iter (R := (Int × Unit) × Unit) c35_L3 (b35_3 k) j ((), l_1, pairs1, i1, n, k_, ())
theorem L35_3_s (k : Nat) (j : Nat) (l_1 : List Y2_0) (pairs1 : List Int) (i1 : Int) (n : Int) (k_ : Int) : L35_3 k (j + 1) l_1 pairs1 i1 n k_ = l35_3 k (L35_3 k j) l_1 pairs1 i1 n k_ := iter_succ _ _ _ _
noncomputable def S35 (k : Nat) (l_ : List Y2_0) (pairs : List Int) (i : Int) : Option Y2_12 :=
 L35_3 k k l_ pairs i 0 0
noncomputable def E35 : Env := tab.env (lk []) (hintL [])
theorem E35_ok : EnvOK Try.prog E35 := envOK_of tabOK _ _ (fun f F h => by cases h)
noncomputable def B35 (k : Nat) : Tbl (RD R35 × MD P35) := (.loop 3 c35_L3 (b35_3 k) (fun g => .nil) .nil)
noncomputable def F35 : Fn := ⟨P35, R35, fun k x => S35 k x.1 x.2.1 x.2.2.1⟩
theorem ok35 : FnOK Try.prog 35 F35 := evalF_ok (E := E35) (T := B35) E35_ok mix Try.func35 rfl (by kernel_rfl) (by kernel_rfl) (fun k => by kernel_rfl) (fun k x => by kernel_rfl)
noncomputable abbrev P17 : List PT := [.val ⟨false, Y2_2, false⟩]
noncomputable abbrev R17 : List RT := [.val ⟨false, .bool, true⟩]
noncomputable abbrev c17_J20 : Cut := ⟨[0, 4, 5, 6, 7, 8], [.cell Y2_2, .own 68 Y2_6, .cell (.int .i64), .cell (.int .i64), .cell .bool, .cell .bool], [], 235⟩
noncomputable def j17_20 (k : Nat) (g10 : Y2_10) (g15 : Y2_14) (l_5 : List Y2_0) (a3 : List Y2_1) (i4 : Int) (k_2 : Int) (apart1 : Bool) (in_ : Bool) : Option Y2_5 :=
 (bif !apart1 then
  (bif !in_ then
   some ((false, ()), ())
  else
   ix a3 i4 <|
   ix a3 k_2 <|
   (S34 k (rd a3 i4 (0, 0, 0, false)) (rd a3 k_2 (0, 0, 0, false)).2.2.1).bind fun q2 =>
   (bif q2.1.1 then
    ix a3 k_2 <|
    ix a3 i4 <|
    (bif decide ((rd a3 k_2 (0, 0, 0, false)).2.1 > (rd a3 i4 (0, 0, 0, false)).2.1) then
     some ((false, ()), ())
    else
     g15 l_5 a3 i4 (IntKind.i64.wrap (k_2 + 1)))
   else
    g15 l_5 a3 i4 (IntKind.i64.wrap (k_2 + 1))))
 else
  ix a3 i4 <|
  ix a3 k_2 <|
  (S34 k (rd a3 i4 (0, 0, 0, false)) (rd a3 k_2 (0, 0, 0, false)).2.2.1).bind fun q3 =>
  (bif q3.1.1 then
   ix a3 k_2 <|
   ix a3 i4 <|
   (bif decide ((rd a3 k_2 (0, 0, 0, false)).2.1 > (rd a3 i4 (0, 0, 0, false)).2.1) then
    some ((false, ()), ())
   else
    g15 l_5 a3 i4 (IntKind.i64.wrap (k_2 + 1)))
  else
   g15 l_5 a3 i4 (IntKind.i64.wrap (k_2 + 1))))
noncomputable abbrev c17_J19 : Cut := ⟨[0, 4, 5, 6, 7], [.cell Y2_2, .own 68 Y2_6, .cell (.int .i64), .cell (.int .i64), .cell .bool], [], 235⟩
noncomputable def j17_19 (k : Nat) (g10 : Y2_10) (g15 : Y2_14) (l_4 : List Y2_0) (a2 : List Y2_1) (i3 : Int) (k_1 : Int) (apart : Bool) : Option Y2_5 :=
 ix a2 i3 <|
 ix a2 k_1 <|
 (bif decide ((rd a2 i3 (0, 0, 0, false)).1 ≤ (rd a2 k_1 (0, 0, 0, false)).1) then
  ix a2 k_1 <|
  ix a2 i3 <|
  (bif decide ((rd a2 k_1 (0, 0, 0, false)).2.1 ≤ (rd a2 i3 (0, 0, 0, false)).2.1) then
   j17_20 k g10 g15 l_4 a2 i3 k_1 apart true
  else
   ix a2 k_1 <|
   ix a2 i3 <|
   (bif decide ((rd a2 k_1 (0, 0, 0, false)).1 ≤ (rd a2 i3 (0, 0, 0, false)).1) then
    ix a2 i3 <|
    ix a2 k_1 <|
    j17_20 k g10 g15 l_4 a2 i3 k_1 apart (decide ((rd a2 i3 (0, 0, 0, false)).2.1 ≤ (rd a2 k_1 (0, 0, 0, false)).2.1))
   else
    j17_20 k g10 g15 l_4 a2 i3 k_1 apart false))
 else
  ix a2 k_1 <|
  ix a2 i3 <|
  (bif decide ((rd a2 k_1 (0, 0, 0, false)).1 ≤ (rd a2 i3 (0, 0, 0, false)).1) then
   ix a2 i3 <|
   ix a2 k_1 <|
   j17_20 k g10 g15 l_4 a2 i3 k_1 apart (decide ((rd a2 i3 (0, 0, 0, false)).2.1 ≤ (rd a2 k_1 (0, 0, 0, false)).2.1))
  else
   j17_20 k g10 g15 l_4 a2 i3 k_1 apart false))
noncomputable abbrev c17_L15 : Cut := ⟨[0, 4, 5, 6], [.cell Y2_2, .own 68 Y2_6, .cell (.int .i64), .cell (.int .i64)], [], 235⟩
noncomputable def l17_15 (k : Nat) (g10 : Y2_10) (g15 : Y2_14) (l_3 : List Y2_0) (a1 : List Y2_1) (i2 : Int) (k_ : Int) : Option Y2_5 :=
 (bif decide (k_ < (a1.length : Int)) then
  (bif i2 == k_ then
   g15 l_3 a1 i2 (IntKind.i64.wrap (k_ + 1))
  else
   ix a1 i2 <|
   ix a1 k_ <|
   (bif decide ((rd a1 i2 (0, 0, 0, false)).2.1 < (rd a1 k_ (0, 0, 0, false)).1) then
    j17_19 k g10 g15 l_3 a1 i2 k_ true
   else
    ix a1 k_ <|
    ix a1 i2 <|
    j17_19 k g10 g15 l_3 a1 i2 k_ (decide ((rd a1 k_ (0, 0, 0, false)).2.1 < (rd a1 i2 (0, 0, 0, false)).1))))
 else
  g10 l_3 a1 (IntKind.i64.wrap (i2 + 1)))
noncomputable def b17_15 (k : Nat) (g10 : Y2_10) (g : ((Unit) × (List Y2_0) × (List Y2_1) × Int × Int × Unit) → Option Y2_5) (d : (Unit) × (List Y2_0) × (List Y2_1) × Int × Int × Unit) : Option Y2_5 := l17_15 k g10 (fun l_3 a1 i2 k_ => g ((), l_3, a1, i2, k_, ())) d.2.1 d.2.2.1 d.2.2.2.1 d.2.2.2.2.1
noncomputable def L17_15 (k : Nat) (g10 : Y2_10) (j : Nat) (l_3 : List Y2_0) (a1 : List Y2_1) (i2 : Int) (k_ : Int) : Option Y2_5 := iter (R := (Bool × Unit) × Unit) c17_L15 (b17_15 k g10) j ((), l_3, a1, i2, k_, ())
theorem L17_15_s (k : Nat) (g10 : Y2_10) (j : Nat) (l_3 : List Y2_0) (a1 : List Y2_1) (i2 : Int) (k_ : Int) : L17_15 k g10 (j + 1) l_3 a1 i2 k_ = l17_15 k g10 (L17_15 k g10 j) l_3 a1 i2 k_ := iter_succ _ _ _ _
noncomputable abbrev c17_L30 : Cut := ⟨[0, 4, 9, 11, 12, 13, 14], [.cell Y2_2, .own 68 Y2_6, .own 3 (.int .i64), .cell (.int .i64), .cell (.int .i64), .cell (.int .i64), .cell (.int .i64)], [], 235⟩
noncomputable def l17_30 (k : Nat) (g26 : Y2_11) (g30 : (List Y2_0) → (List Y2_1) → (List Int) → Int → Int → Int → Int → Option Y2_5) (l_7 : List Y2_0) (a5 : List Y2_1) (pairs1 : List Int) (i6 : Int) (bodies : Int) (all : Int) (k_3 : Int) : Option Y2_5 :=
 (bif decide (k_3 < (a5.length : Int)) then
  ix a5 k_3 <|
  (S34 k (rd a5 k_3 (0, 0, 0, false)) i6).bind fun q5 =>
  (bif q5.1.1 then
   ix a5 k_3 <|
   (bif (rd a5 k_3 (0, 0, 0, false)).2.2.2 then
    g30 l_7 a5 pairs1 i6 (IntKind.i64.wrap (bodies + 1)) (IntKind.i64.wrap (all + 1)) (IntKind.i64.wrap (k_3 + 1))
   else
    g30 l_7 a5 pairs1 i6 bodies (IntKind.i64.wrap (all + 1)) (IntKind.i64.wrap (k_3 + 1)))
  else
   g30 l_7 a5 pairs1 i6 bodies all (IntKind.i64.wrap (k_3 + 1)))
 else
  (bif decide (bodies > 2) then
   some ((false, ()), ())
  else
   ix l_7 i6 <|
   (bif (rd l_7 i6 (0, 0, 0, 0)).1 == 11 then
    (bif decide (all > 0) then
     some ((false, ()), ())
    else
     (S35 k l_7 pairs1 i6).bind fun q6 =>
     (bif decide (q6.1.1 > 0) then
      some ((false, ()), ())
     else
      g26 l_7 a5 pairs1 (IntKind.i64.wrap (i6 + 1))))
   else
    g26 l_7 a5 pairs1 (IntKind.i64.wrap (i6 + 1)))))
noncomputable def b17_30 (k : Nat) (g26 : Y2_11) (g : ((Unit) × (List Y2_0) × (List Y2_1) × (List Int) × Int × Int × Int × Int × Unit) → Option Y2_5) (d : (Unit) × (List Y2_0) × (List Y2_1) × (List Int) × Int × Int × Int × Int × Unit) : Option Y2_5 := l17_30 k g26 (fun l_7 a5 pairs1 i6 bodies all k_3 => g ((), l_7, a5, pairs1, i6, bodies, all, k_3, ())) d.2.1 d.2.2.1 d.2.2.2.1 d.2.2.2.2.1 d.2.2.2.2.2.1 d.2.2.2.2.2.2.1 d.2.2.2.2.2.2.2.1
noncomputable def L17_30 (k : Nat) (g26 : Y2_11) (j : Nat) (l_7 : List Y2_0) (a5 : List Y2_1) (pairs1 : List Int) (i6 : Int) (bodies : Int) (all : Int) (k_3 : Int) : Option Y2_5 := iter (R := (Bool × Unit) × Unit) c17_L30 (b17_30 k g26) j ((), l_7, a5, pairs1, i6, bodies, all, k_3, ())
theorem L17_30_s (k : Nat) (g26 : Y2_11) (j : Nat) (l_7 : List Y2_0) (a5 : List Y2_1) (pairs1 : List Int) (i6 : Int) (bodies : Int) (all : Int) (k_3 : Int) : L17_30 k g26 (j + 1) l_7 a5 pairs1 i6 bodies all k_3 = l17_30 k g26 (L17_30 k g26 j) l_7 a5 pairs1 i6 bodies all k_3 := iter_succ _ _ _ _
noncomputable abbrev c17_L26 : Cut := ⟨[0, 4, 9, 11], [.cell Y2_2, .own 68 Y2_6, .own 3 (.int .i64), .cell (.int .i64)], [], 235⟩
noncomputable def l17_26 (k : Nat) (g26 : Y2_11) (l_6 : List Y2_0) (a4 : List Y2_1) (pairs : List Int) (i5 : Int) : Option Y2_5 :=
 (bif decide (i5 < (l_6.length : Int)) then
  L17_30 k g26 k l_6 a4 pairs i5 0 0 0
 else
  some ((true, ()), ()))
noncomputable def b17_26 (k : Nat) (g : ((Unit) × (List Y2_0) × (List Y2_1) × (List Int) × Int × Unit) → Option Y2_5) (d : (Unit) × (List Y2_0) × (List Y2_1) × (List Int) × Int × Unit) : Option Y2_5 := l17_26 k (fun l_6 a4 pairs i5 => g ((), l_6, a4, pairs, i5, ())) d.2.1 d.2.2.1 d.2.2.2.1 d.2.2.2.2.1
noncomputable def L17_26 (k : Nat) (j : Nat) (l_6 : List Y2_0) (a4 : List Y2_1) (pairs : List Int) (i5 : Int) : Option Y2_5 := iter (R := (Bool × Unit) × Unit) c17_L26 (b17_26 k) j ((), l_6, a4, pairs, i5, ())
theorem L17_26_s (k : Nat) (j : Nat) (l_6 : List Y2_0) (a4 : List Y2_1) (pairs : List Int) (i5 : Int) : L17_26 k (j + 1) l_6 a4 pairs i5 = l17_26 k (L17_26 k j) l_6 a4 pairs i5 := iter_succ _ _ _ _
noncomputable abbrev c17_L10 : Cut := ⟨[0, 4, 5], [.cell Y2_2, .own 68 Y2_6, .cell (.int .i64)], [], 235⟩
noncomputable def l17_10 (k : Nat) (g10 : Y2_10) (l_2 : List Y2_0) (a : List Y2_1) (i1 : Int) : Option Y2_5 :=
 (bif decide (i1 < (a.length : Int)) then
  ix a i1 <|
  (bif decide ((rd a i1 (0, 0, 0, false)).2.1 ≥ (IntKind.i64.wrap ((l_2.length : Int) - 1))) then
   some ((false, ()), ())
  else
   L17_15 k g10 k l_2 a i1 0)
 else
  (S20 k l_2).bind fun q4 =>
  (bif !q4.1.2.1 then
   some ((false, ()), ())
  else
   L17_26 k k l_2 a q4.1.1 0))
noncomputable def b17_10 (k : Nat) (g : ((Unit) × (List Y2_0) × (List Y2_1) × Int × Unit) → Option Y2_5) (d : (Unit) × (List Y2_0) × (List Y2_1) × Int × Unit) : Option Y2_5 := l17_10 k (fun l_2 a i1 => g ((), l_2, a, i1, ())) d.2.1 d.2.2.1 d.2.2.2.1
noncomputable def L17_10 (k : Nat) (j : Nat) (l_2 : List Y2_0) (a : List Y2_1) (i1 : Int) : Option Y2_5 := iter (R := (Bool × Unit) × Unit) c17_L10 (b17_10 k) j ((), l_2, a, i1, ())
theorem L17_10_s (k : Nat) (j : Nat) (l_2 : List Y2_0) (a : List Y2_1) (i1 : Int) : L17_10 k (j + 1) l_2 a i1 = l17_10 k (L17_10 k j) l_2 a i1 := iter_succ _ _ _ _
noncomputable abbrev c17_L4 : Cut := ⟨[0, 3], [.cell Y2_2, .cell (.int .i64)], [], 235⟩
noncomputable def l17_4 (k : Nat) (g4 : (List Y2_0) → Int → Option Y2_5) (l_1 : List Y2_0) (i : Int) : Option Y2_5 :=
 (bif decide (i < (l_1.length : Int)) then
  ix l_1 i <|
  (S32 k (rd l_1 i (0, 0, 0, 0))).bind fun q0 =>
  (bif !q0.1.1 then
   some ((false, ()), ())
  else
   ix l_1 i <|
   (bif !(((rd l_1 i (0, 0, 0, 0)).1 == 0) == (i == (IntKind.i64.wrap ((l_1.length : Int) - 1)))) then
    some ((false, ()), ())
   else
    g4 l_1 (IntKind.i64.wrap (i + 1))))
 else
  (S33 k l_1).bind fun q1 =>
  L17_10 k k l_1 q1.1.1 0)
noncomputable def b17_4 (k : Nat) (g : ((Unit) × (List Y2_0) × Int × Unit) → Option Y2_5) (d : (Unit) × (List Y2_0) × Int × Unit) : Option Y2_5 := l17_4 k (fun l_1 i => g ((), l_1, i, ())) d.2.1 d.2.2.1
noncomputable def L17_4 (k : Nat) (j : Nat) (l_1 : List Y2_0) (i : Int) : Option Y2_5 := iter (R := (Bool × Unit) × Unit) c17_L4 (b17_4 k) j ((), l_1, i, ())
theorem L17_4_s (k : Nat) (j : Nat) (l_1 : List Y2_0) (i : Int) : L17_4 k (j + 1) l_1 i = l17_4 k (L17_4 k j) l_1 i := iter_succ _ _ _ _
noncomputable def S17 (k : Nat) (l_ : List Y2_0) : Option Y2_5 :=
 (bif decide ((l_.length : Int) < 1) then
  some ((false, ()), ())
 else
  (bif decide ((l_.length : Int) > 24) then
   some ((false, ()), ())
  else
   L17_4 k k l_ 0))
noncomputable def E17 : Env := tab.env (lk [(20, F20), (32, F32), (33, F33), (34, F34), (35, F35)]) (hintL [])
theorem E17_ok : EnvOK Try.prog E17 := envOK_of tabOK _ _ (allFn_lk (l := [(20, F20), (32, F32), (33, F33), (34, F34), (35, F35)]) ⟨ok20, ok32, ok33, ok34, ok35, trivial⟩)
noncomputable def B17 (k : Nat) : Tbl (RD R17 × MD P17) := (.loop 26 c17_L26 (b17_26 k) (fun g => (fun (g26 : Y2_11) => (.loop 30 c17_L30 (b17_30 k g26) (fun g => .nil) .nil)) (fun l_6 a4 pairs i5 => g ((), l_6, a4, pairs, i5, ()))) (.loop 10 c17_L10 (b17_10 k) (fun g => (fun (g10 : Y2_10) => (.loop 15 c17_L15 (b17_15 k g10) (fun g => (fun (g15 : Y2_14) => (.join 20 c17_J20 (fun d => j17_20 k g10 g15 d.2.1 d.2.2.1 d.2.2.2.1 d.2.2.2.2.1 d.2.2.2.2.2.1 d.2.2.2.2.2.2.1) (.join 19 c17_J19 (fun d => j17_19 k g10 g15 d.2.1 d.2.2.1 d.2.2.2.1 d.2.2.2.2.1 d.2.2.2.2.2.1) .nil))) (fun l_3 a1 i2 k_ => g ((), l_3, a1, i2, k_, ()))) .nil)) (fun l_2 a i1 => g ((), l_2, a, i1, ()))) (.loop 4 c17_L4 (b17_4 k) (fun g => .nil) .nil)))
noncomputable def F17 : Fn := ⟨P17, R17, fun k x => S17 k x.1⟩
theorem ok17 : FnOK Try.prog 17 F17 := evalF_ok (E := E17) (T := B17) E17_ok mix Try.func17 rfl (by kernel_rfl) (by kernel_rfl) (fun k => by kernel_rfl) (fun k x => by kernel_rfl)
noncomputable abbrev P50 : List PT := [.val ⟨false, Y2_2, false⟩]
noncomputable abbrev R50 : List RT := [.val ⟨false, (.sl 2 (.int .i64)), true⟩]
noncomputable abbrev c50_L8 : Cut := ⟨[0, 3, 4, 5, 6], [.cell Y2_2, .own 2 (.int .i64), .own 68 Y2_6, .cell (.int .i64), .cell (.int .i64)], [], 58⟩
noncomputable def l50_8 (k : Nat) (g4 : Y2_9) (g8 : (List Y2_0) → (List Int) → (List Y2_1) → Int → Int → Option Y2_13) (l_2 : List Y2_0) (out1 : List Int) (a1 : List Y2_1) (i1 : Int) (k_ : Int) : Option Y2_13 :=
 (bif decide (k_ < (a1.length : Int)) then
  ix a1 k_ <|
  (bif (rd a1 k_ (0, 0, 0, false)).2.2.2 then
   ix a1 k_ <|
   (S34 k (rd a1 k_ (0, 0, 0, false)) i1).bind fun q1 =>
   (bif q1.1.1 then
    ix out1 i1 <|
    ix a1 k_ <|
    ix l_2 (rd a1 k_ (0, 0, 0, false)).2.2.1 <|
    ix out1 i1 <|
    g8 l_2 (upd out1 i1 (IntKind.i64.wrap ((rd out1 i1 0) * (rd l_2 (rd a1 k_ (0, 0, 0, false)).2.2.1 (0, 0, 0, 0)).2.2.2))) a1 i1 (IntKind.i64.wrap (k_ + 1))
   else
    g8 l_2 out1 a1 i1 (IntKind.i64.wrap (k_ + 1)))
  else
   g8 l_2 out1 a1 i1 (IntKind.i64.wrap (k_ + 1)))
 else
  g4 l_2 out1 a1 (IntKind.i64.wrap (i1 + 1)))
noncomputable def b50_8 (k : Nat) (g4 : Y2_9) (g : ((Unit) × (List Y2_0) × (List Int) × (List Y2_1) × Int × Int × Unit) → Option Y2_13) (d : (Unit) × (List Y2_0) × (List Int) × (List Y2_1) × Int × Int × Unit) : Option Y2_13 := l50_8 k g4 (fun l_2 out1 a1 i1 k_ => g ((), l_2, out1, a1, i1, k_, ())) d.2.1 d.2.2.1 d.2.2.2.1 d.2.2.2.2.1 d.2.2.2.2.2.1
noncomputable def L50_8 (k : Nat) (g4 : Y2_9) (j : Nat) (l_2 : List Y2_0) (out1 : List Int) (a1 : List Y2_1) (i1 : Int) (k_ : Int) : Option Y2_13 := iter (R := ((List Int) × Unit) × Unit) c50_L8 (b50_8 k g4) j ((), l_2, out1, a1, i1, k_, ())
theorem L50_8_s (k : Nat) (g4 : Y2_9) (j : Nat) (l_2 : List Y2_0) (out1 : List Int) (a1 : List Y2_1) (i1 : Int) (k_ : Int) : L50_8 k g4 (j + 1) l_2 out1 a1 i1 k_ = l50_8 k g4 (L50_8 k g4 j) l_2 out1 a1 i1 k_ := iter_succ _ _ _ _
noncomputable abbrev c50_L4 : Cut := ⟨[0, 3, 4, 5], [.cell Y2_2, .own 2 (.int .i64), .own 68 Y2_6, .cell (.int .i64)], [], 58⟩
noncomputable def l50_4 (k : Nat) (g4 : Y2_9) (l_1 : List Y2_0) (out : List Int) (a : List Y2_1) (i : Int) : Option Y2_13 :=
 (bif decide (i < (l_1.length : Int)) then
  ix out i <|
  L50_8 k g4 k l_1 (upd out i 1) a i 0
 else
  some ((out, ()), ()))
noncomputable def b50_4 (k : Nat) (g : ((Unit) × (List Y2_0) × (List Int) × (List Y2_1) × Int × Unit) → Option Y2_13) (d : (Unit) × (List Y2_0) × (List Int) × (List Y2_1) × Int × Unit) : Option Y2_13 := l50_4 k (fun l_1 out a i => g ((), l_1, out, a, i, ())) d.2.1 d.2.2.1 d.2.2.2.1 d.2.2.2.2.1
noncomputable def L50_4 (k : Nat) (j : Nat) (l_1 : List Y2_0) (out : List Int) (a : List Y2_1) (i : Int) : Option Y2_13 := iter (R := ((List Int) × Unit) × Unit) c50_L4 (b50_4 k) j ((), l_1, out, a, i, ())
theorem L50_4_s (k : Nat) (j : Nat) (l_1 : List Y2_0) (out : List Int) (a : List Y2_1) (i : Int) : L50_4 k (j + 1) l_1 out a i = l50_4 k (L50_4 k j) l_1 out a i := iter_succ _ _ _ _
noncomputable def S50 (k : Nat) (l_ : List Y2_0) : Option Y2_13 :=
 mk (l_.length : Int) (l_.length : Int) 8 <|
 (S33 k l_).bind fun q0 =>
 L50_4 k k l_ (List.replicate (l_.length : Int).toNat (0 : Int)) q0.1.1 0
noncomputable def E50 : Env := tab.env (lk [(33, F33), (34, F34)]) (hintL [])
theorem E50_ok : EnvOK Try.prog E50 := envOK_of tabOK _ _ (allFn_lk (l := [(33, F33), (34, F34)]) ⟨ok33, ok34, trivial⟩)
noncomputable def B50 (k : Nat) : Tbl (RD R50 × MD P50) := (.loop 4 c50_L4 (b50_4 k) (fun g => (fun (g4 : Y2_9) => (.loop 8 c50_L8 (b50_8 k g4) (fun g => .nil) .nil)) (fun l_1 out a i => g ((), l_1, out, a, i, ()))) .nil)
noncomputable def F50 : Fn := ⟨P50, R50, fun k x => S50 k x.1⟩
theorem ok50 : FnOK Try.prog 50 F50 := evalF_ok (E := E50) (T := B50) E50_ok mix Try.func50 rfl (by kernel_rfl) (by kernel_rfl) (fun k => by kernel_rfl) (fun k x => by kernel_rfl)
noncomputable abbrev P27 : List PT := [.val ⟨false, Y2_2, false⟩]
noncomputable abbrev R27 : List RT := [.val ⟨true, (.pair (.int .i64) (.pair (.int .i64) (.sl 54 Y2_15))), true⟩, .val ⟨false, .bool, true⟩]
noncomputable abbrev c27_L16 : Cut := ⟨[0, 2, 4, 5, 6, 8, 9, 10, 11], [.cell Y2_2, .box 50 [.cell (.int .i64), .cell (.int .i64), .nil], .box 50 [.cell (.int .i64), .cell (.int .i64), .own 54 Y2_15], .own 2 (.int .i64), .own 3 (.int .i64), .cell (.int .i64), .cell (.int .i64), .cell (.int .i64), .cell (.int .i64)], [], 103⟩
noncomputable def l27_16 (k : Nat) (g8 : Y2_3) (g16 : (List Y2_0) → Int → Int → Int → Int → (List (Int × Int)) → (List Int) → (List Int) → Int → Int → Int → Int → Option Y2_7) (l_3 : List Y2_0) (t2_4 : Int) (t2_5 : Int) (c6 : Int) (c7 : Int) (c8 : List (Int × Int)) (t3 : List Int) (pairs2 : List Int) (piece2 : Int) (i2 : Int) (n : Int) (k_ : Int) : Option Y2_7 :=
 ix pairs2 i2 <|
 (bif decide (k_ ≤ (rd pairs2 i2 0)) then
  ix t3 k_ <|
  g16 l_3 t2_4 t2_5 c6 c7 c8 t3 pairs2 piece2 i2 (IntKind.i64.wrap (n + (rd t3 k_ 0))) (IntKind.i64.wrap (k_ + 1))
 else
  ix l_3 i2 <|
  ix t3 i2 <|
  nz (rd t3 i2 0) <|
  ap c8 ([((rd l_3 i2 (0, 0, 0, 0)).2.1, IntKind.i64.wrap (Int.tdiv n (rd t3 i2 0)))] : List (Int × Int)) 16 fun r3 =>
  g8 l_3 t2_4 t2_5 c6 c7 r3 t3 pairs2 piece2 (IntKind.i64.wrap (i2 + 1)))
noncomputable def b27_16 (k : Nat) (g8 : Y2_3) (g : ((Unit) × (List Y2_0) × (Int × Int × Unit × Unit) × Y2_17 × (List Int) × (List Int) × Int × Int × Int × Int × Unit) → Option Y2_7) (d : (Unit) × (List Y2_0) × (Int × Int × Unit × Unit) × Y2_17 × (List Int) × (List Int) × Int × Int × Int × Int × Unit) : Option Y2_7 := l27_16 k g8 (fun l_3 t2_4 t2_5 c6 c7 c8 t3 pairs2 piece2 i2 n k_ => g ((), l_3, (t2_4, t2_5, (), ()), (c6, c7, c8, ()), t3, pairs2, piece2, i2, n, k_, ())) d.2.1 d.2.2.1.1 d.2.2.1.2.1 d.2.2.2.1.1 d.2.2.2.1.2.1 d.2.2.2.1.2.2.1 d.2.2.2.2.1 d.2.2.2.2.2.1 d.2.2.2.2.2.2.1 d.2.2.2.2.2.2.2.1 d.2.2.2.2.2.2.2.2.1 d.2.2.2.2.2.2.2.2.2.1
noncomputable def L27_16 (k : Nat) (g8 : Y2_3) (j : Nat) (l_3 : List Y2_0) (t2_4 : Int) (t2_5 : Int) (c6 : Int) (c7 : Int) (c8 : List (Int × Int)) (t3 : List Int) (pairs2 : List Int) (piece2 : Int) (i2 : Int) (n : Int) (k_ : Int) : Option Y2_7 := iter (R := ((Int × Int × List (Int × Int)) × Bool × Unit) × Unit) c27_L16 (b27_16 k g8) j ((), l_3, (t2_4, t2_5, (), ()), (c6, c7, c8, ()), t3, pairs2, piece2, i2, n, k_, ())
theorem L27_16_s (k : Nat) (g8 : Y2_3) (j : Nat) (l_3 : List Y2_0) (t2_4 : Int) (t2_5 : Int) (c6 : Int) (c7 : Int) (c8 : List (Int × Int)) (t3 : List Int) (pairs2 : List Int) (piece2 : Int) (i2 : Int) (n : Int) (k_ : Int) : L27_16 k g8 (j + 1) l_3 t2_4 t2_5 c6 c7 c8 t3 pairs2 piece2 i2 n k_ = l27_16 k g8 (L27_16 k g8 j) l_3 t2_4 t2_5 c6 c7 c8 t3 pairs2 piece2 i2 n k_ := iter_succ _ _ _ _
noncomputable abbrev c27_J13 : Cut := ⟨[0, 2, 4, 5, 6, 8, 9], [.cell Y2_2, .box 50 [.cell (.int .i64), .cell (.int .i64), .nil], .box 50 [.cell (.int .i64), .cell (.int .i64), .own 54 Y2_15], .own 2 (.int .i64), .own 3 (.int .i64), .cell (.int .i64), .cell (.int .i64)], [], 103⟩
noncomputable def j27_13 (k : Nat) (g8 : Y2_3) (l_2 : List Y2_0) (t2_2 : Int) (t2_3 : Int) (c3 : Int) (c4 : Int) (c5 : List (Int × Int)) (t1 : List Int) (pairs1 : List Int) (piece1 : Int) (i1 : Int) : Option Y2_7 :=
 ix l_2 i1 <|
 (bif (rd l_2 i1 (0, 0, 0, 0)).1 == 9 then
  L27_16 k g8 k l_2 t2_2 t2_3 c3 c4 c5 t1 pairs1 piece1 i1 0 (IntKind.i64.wrap (i1 + 1))
 else
  g8 l_2 t2_2 t2_3 c3 c4 c5 t1 pairs1 piece1 (IntKind.i64.wrap (i1 + 1)))
noncomputable abbrev c27_L8 : Cut := ⟨[0, 2, 4, 5, 6, 8, 9], [.cell Y2_2, .box 50 [.cell (.int .i64), .cell (.int .i64), .nil], .box 50 [.cell (.int .i64), .cell (.int .i64), .own 54 Y2_15], .own 2 (.int .i64), .own 3 (.int .i64), .cell (.int .i64), .cell (.int .i64)], [], 103⟩
noncomputable def l27_8 (k : Nat) (g8 : Y2_3) (l_1 : List Y2_0) (t2 : Int) (t2_1 : Int) (c : Int) (c1 : Int) (c2 : List (Int × Int)) (t : List Int) (pairs : List Int) (piece : Int) (i : Int) : Option Y2_7 :=
 (bif decide (i < (l_1.length : Int)) then
  ix t i <|
  ix t i <|
  ix l_1 i <|
  (bif (rd l_1 i (0, 0, 0, 0)).1 == 11 then
   j27_13 k g8 l_1 t2 t2_1 (IntKind.i64.wrap (c + (rd t i 0))) (mx c1 (IntKind.i64.wrap (piece + (rd t i 0)))) c2 t pairs 0 i
  else
   ix l_1 i <|
   (bif (rd l_1 i (0, 0, 0, 0)).1 == 0 then
    j27_13 k g8 l_1 t2 t2_1 (IntKind.i64.wrap (c + (rd t i 0))) (mx c1 (IntKind.i64.wrap (piece + (rd t i 0)))) c2 t pairs 0 i
   else
    j27_13 k g8 l_1 t2 t2_1 (IntKind.i64.wrap (c + (rd t i 0))) c1 c2 t pairs (IntKind.i64.wrap (piece + (rd t i 0))) i))
 else
  some (((c, c1, c2), true, ()), ()))
noncomputable def b27_8 (k : Nat) (g : ((Unit) × (List Y2_0) × (Int × Int × Unit × Unit) × Y2_17 × (List Int) × (List Int) × Int × Int × Unit) → Option Y2_7) (d : (Unit) × (List Y2_0) × (Int × Int × Unit × Unit) × Y2_17 × (List Int) × (List Int) × Int × Int × Unit) : Option Y2_7 := l27_8 k (fun l_1 t2 t2_1 c c1 c2 t pairs piece i => g ((), l_1, (t2, t2_1, (), ()), (c, c1, c2, ()), t, pairs, piece, i, ())) d.2.1 d.2.2.1.1 d.2.2.1.2.1 d.2.2.2.1.1 d.2.2.2.1.2.1 d.2.2.2.1.2.2.1 d.2.2.2.2.1 d.2.2.2.2.2.1 d.2.2.2.2.2.2.1 d.2.2.2.2.2.2.2.1
noncomputable def L27_8 (k : Nat) (j : Nat) (l_1 : List Y2_0) (t2 : Int) (t2_1 : Int) (c : Int) (c1 : Int) (c2 : List (Int × Int)) (t : List Int) (pairs : List Int) (piece : Int) (i : Int) : Option Y2_7 := iter (R := ((Int × Int × List (Int × Int)) × Bool × Unit) × Unit) c27_L8 (b27_8 k) j ((), l_1, (t2, t2_1, (), ()), (c, c1, c2, ()), t, pairs, piece, i, ())
theorem L27_8_s (k : Nat) (j : Nat) (l_1 : List Y2_0) (t2 : Int) (t2_1 : Int) (c : Int) (c1 : Int) (c2 : List (Int × Int)) (t : List Int) (pairs : List Int) (piece : Int) (i : Int) : L27_8 k (j + 1) l_1 t2 t2_1 c c1 c2 t pairs piece i = l27_8 k (L27_8 k j) l_1 t2 t2_1 c c1 c2 t pairs piece i := iter_succ _ _ _ _
noncomputable def S27 (k : Nat) (l_ : List Y2_0) : Option Y2_7 :=
 (S17 k l_).bind fun q0 =>
 (bif !q0.1.1 then
  some (((0, 0, []), false, ()), ())
 else
  (S50 k l_).bind fun q1 =>
  (S20 k l_).bind fun q2 =>
  L27_8 k k l_ 0 0 0 0 ([] : List (Int × Int)) q1.1.1 q2.1.1 0 0)
noncomputable def E27 : Env := tab.env (lk [(17, F17), (20, F20), (50, F50)]) (hintL [(16, 2)])
theorem E27_ok : EnvOK Try.prog E27 := envOK_of tabOK _ _ (allFn_lk (l := [(17, F17), (20, F20), (50, F50)]) ⟨ok17, ok20, ok50, trivial⟩)
noncomputable def B27 (k : Nat) : Tbl (RD R27 × MD P27) := (.loop 8 c27_L8 (b27_8 k) (fun g => (fun (g8 : Y2_3) => (.loop 16 c27_L16 (b27_16 k g8) (fun g => .nil) (.join 13 c27_J13 (fun d => j27_13 k g8 d.2.1 d.2.2.1.1 d.2.2.1.2.1 d.2.2.2.1.1 d.2.2.2.1.2.1 d.2.2.2.1.2.2.1 d.2.2.2.2.1 d.2.2.2.2.2.1 d.2.2.2.2.2.2.1 d.2.2.2.2.2.2.2.1) .nil))) (fun l_1 t2 t2_1 c c1 c2 t pairs piece i => g ((), l_1, (t2, t2_1, (), ()), (c, c1, c2, ()), t, pairs, piece, i, ()))) .nil)
noncomputable def F27 : Fn := ⟨P27, R27, fun k x => S27 k x.1⟩
theorem ok27 : FnOK Try.prog 27 F27 := evalF_ok (E := E27) (T := B27) E27_ok mix Try.func27 rfl (by kernel_rfl) (by kernel_rfl) (fun k => by kernel_rfl) (fun k x => by kernel_rfl)
noncomputable abbrev P21 : List PT := [.val ⟨false, (.int .i64), false⟩]
noncomputable abbrev R21 : List RT := [.val ⟨true, (.pair (.int .i64) (.pair (arrT 8 (.int .i64)) (.pair (.sl 82 (.pair (.int .i64) Y2_15)) .bool))), true⟩]
noncomputable def S21 (k : Nat) (in_ : Int) : Option (((Int × (PN Int 8) × (List (Int × Int × Int)) × Bool) × Unit) × Unit) :=
 some (((0, (in_, 0, 0, 0, 0, 0, 0, 0), [], false), ()), ())
noncomputable def E21 : Env := tab.env (lk []) (hintL [])
theorem E21_ok : EnvOK Try.prog E21 := envOK_of tabOK _ _ (fun f F h => by cases h)
noncomputable def B21 (k : Nat) : Tbl (RD R21 × MD P21) := .nil
noncomputable def F21 : Fn := ⟨P21, R21, fun k x => S21 k x.1⟩
theorem ok21 : FnOK Try.prog 21 F21 := evalF_ok (E := E21) (T := B21) E21_ok mix Try.func21 rfl (by kernel_rfl) (by kernel_rfl) (fun k => by kernel_rfl) (fun k x => by kernel_rfl)
noncomputable abbrev P46 : List PT := [.val ⟨false, (.int .i64), false⟩, .val ⟨false, (.int .i64), false⟩]
noncomputable abbrev R46 : List RT := [.val ⟨false, (.int .i64), true⟩]
noncomputable abbrev c46_L6 : Cut := ⟨[0, 1], [.cell (.int .i64), .cell (.int .i64)], [], 35⟩
noncomputable def l46_6 (k : Nat) (g6 : Int → Int → Option Y2_12) (v2 : Int) (n2 : Int) : Option Y2_12 :=
 (bif decide (n2 < 0) then
  (bif decide (v2 < 0) then
   (bif (Int.tmod v2 2) != 0 then
    g6 (IntKind.i64.wrap ((IntKind.i64.wrap (Int.tdiv v2 2)) - 1)) (IntKind.i64.wrap (n2 + 1))
   else
    g6 (IntKind.i64.wrap (Int.tdiv v2 2)) (IntKind.i64.wrap (n2 + 1)))
  else
   g6 (IntKind.i64.wrap (Int.tdiv v2 2)) (IntKind.i64.wrap (n2 + 1)))
 else
  some ((v2, ()), ()))
noncomputable def b46_6 (k : Nat) (g : ((Unit) × Int × Int × Unit) → Option Y2_12) (d : (Unit) × Int × Int × Unit) : Option Y2_12 := l46_6 k (fun v2 n2 => g ((), v2, n2, ())) d.2.1 d.2.2.1
noncomputable def L46_6 (k : Nat) (j : Nat) (v2 : Int) (n2 : Int) : Option Y2_12 := iter (R := (Int × Unit) × Unit) c46_L6 (b46_6 k) j ((), v2, n2, ())
theorem L46_6_s (k : Nat) (j : Nat) (v2 : Int) (n2 : Int) : L46_6 k (j + 1) v2 n2 = l46_6 k (L46_6 k j) v2 n2 := iter_succ _ _ _ _
noncomputable abbrev c46_L3 : Cut := ⟨[0, 1], [.cell (.int .i64), .cell (.int .i64)], [], 35⟩
noncomputable def l46_3 (k : Nat) (g3 : Int → Int → Option Y2_12) (v1 : Int) (n1 : Int) : Option Y2_12 :=
 (bif decide (n1 > 0) then
  g3 (IntKind.i64.wrap (v1 * 2)) (IntKind.i64.wrap (n1 - 1))
 else
  L46_6 k k v1 n1)
noncomputable def b46_3 (k : Nat) (g : ((Unit) × Int × Int × Unit) → Option Y2_12) (d : (Unit) × Int × Int × Unit) : Option Y2_12 := l46_3 k (fun v1 n1 => g ((), v1, n1, ())) d.2.1 d.2.2.1
noncomputable def L46_3 (k : Nat) (j : Nat) (v1 : Int) (n1 : Int) : Option Y2_12 := iter (R := (Int × Unit) × Unit) c46_L3 (b46_3 k) j ((), v1, n1, ())
theorem L46_3_s (k : Nat) (j : Nat) (v1 : Int) (n1 : Int) : L46_3 k (j + 1) v1 n1 = l46_3 k (L46_3 k j) v1 n1 := iter_succ _ _ _ _
noncomputable def S46 (k : Nat) (v : Int) (n : Int) : Option Y2_12 :=
 (bif decide (n < (-63)) then
  some ((v, ()), ())
 else
  (bif decide (n > 63) then
   some ((v, ()), ())
  else
   L46_3 k k v n))
noncomputable def E46 : Env := tab.env (lk []) (hintL [])
theorem E46_ok : EnvOK Try.prog E46 := envOK_of tabOK _ _ (fun f F h => by cases h)
noncomputable def B46 (k : Nat) : Tbl (RD R46 × MD P46) := (.loop 6 c46_L6 (b46_6 k) (fun g => .nil) (.loop 3 c46_L3 (b46_3 k) (fun g => .nil) .nil))
noncomputable def F46 : Fn := ⟨P46, R46, fun k x => S46 k x.1 x.2.1⟩
theorem ok46 : FnOK Try.prog 46 F46 := evalF_ok (E := E46) (T := B46) E46_ok mix Try.func46 rfl (by kernel_rfl) (by kernel_rfl) (fun k => by kernel_rfl) (fun k x => by kernel_rfl)
end Go.Proofs.Ytjnnjciedbgmiaa.Ab
