import Derived.Test.YtinopkpnlibopaaAbP3
/- Contracts, printed by this session's own program gen.py. -/
set_option linter.unusedVariables false
set_option linter.unusedSimpArgs false
set_option maxRecDepth 100000
namespace Go.Proofs.Ytinopkpnlibopaa.Ab
open Go.RowKit
abbrev Y4_0 : Type := Int × Int × Int × Int
abbrev Y4_1 : Type := Int × Int × Int × Bool
abbrev Y4_2 : Ty := .sl 60 (.pair (.int .i64) (.pair (.int .i64) (.pair (.int .i64) (.int .i64))))
abbrev Y4_3 : Type := (List Y4_0) → Int → Int → Int → Int → (List (Int × Int)) → (List Int) → (List Int) → Int → Int → Option (((Int × Int × List (Int × Int)) × Bool × Unit) × Unit)
abbrev Y4_4 : Type := (List Y4_0) → (List Int) → (List Int) → (List Y4_1) → Int → Option (((List Int) × Bool × Unit) × Unit)
abbrev Y4_5 : Type := (Bool × Unit) × Unit
abbrev Y4_6 : Ty := .pair (.int .i64) (.pair (.int .i64) (.pair (.int .i64) .bool))
abbrev Y4_7 : Type := ((Int × Int × List (Int × Int)) × Bool × Unit) × Unit
abbrev Y4_8 : Type := ((List Int) × Bool × Unit) × Unit
abbrev Y4_9 : Type := (List Y4_0) → (List Int) → (List Y4_1) → Int → Option (((List Int) × Unit) × Unit)
abbrev Y4_10 : Type := (List Y4_0) → (List Y4_1) → Int → Option Y4_5
abbrev Y4_11 : Type := (List Y4_0) → (List Y4_1) → (List Int) → Int → Option Y4_5
abbrev Y4_12 : Type := ((List Int) × Unit) × Unit
abbrev Y4_13 : Type := (List Y4_0) → (List Y4_1) → Int → Int → Option Y4_5
abbrev Y4_14 : Type := ((List Y4_1) × Unit) × Unit
abbrev Y4_15 : Type := Int × Int × (List (Int × Int)) × Unit
abbrev Y4_16 : Ty := .pair (.int .i64) (.int .i64)
noncomputable abbrev P82 : List PT := [.val ⟨true, (.pair (.int .i64) (.pair (.int .i64) Y4_16)), false⟩]
noncomputable abbrev R82 : List RT := [.val ⟨false, .bool, true⟩]
noncomputable def S82 (k : Nat) (i : Int × Int × Int × Int) : Option Y4_5 :=
 (bif i.1 == 0 then
  (bif i.2.1 == 0 then
   (bif i.2.2.1 == 0 then
    some ((i.2.2.2 == 0, ()), ())
   else
    some ((false, ()), ()))
  else
   some ((false, ()), ()))
 else
  (bif i.1 == 11 then
   (bif i.2.1 == 0 then
    (bif i.2.2.1 == 0 then
     some ((i.2.2.2 == 0, ()), ())
    else
     some ((false, ()), ()))
   else
    some ((false, ()), ()))
  else
   (bif i.1 == 1 then
    (S99 k 8 i.2.1).bind fun q0 =>
    (bif q0.1.1 then
     (bif i.2.2.1 == 0 then
      (bif decide (i.2.2.2 ≥ (-2147483648)) then
       some ((decide (i.2.2.2 < 2147483648), ()), ())
      else
       some ((false, ()), ()))
     else
      some ((false, ()), ()))
    else
     some ((false, ()), ()))
   else
    (bif i.1 == 2 then
     (S99 k 8 i.2.1).bind fun q1 =>
     (bif q1.1.1 then
      (S99 k 8 i.2.2.1).bind fun q2 =>
      (bif q2.1.1 then
       some ((i.2.2.2 == 0, ()), ())
      else
       some ((false, ()), ()))
     else
      some ((false, ()), ()))
    else
     (bif i.1 == 3 then
      (S99 k 8 i.2.1).bind fun q3 =>
      (bif q3.1.1 then
       (S99 k 8 i.2.2.1).bind fun q4 =>
       (bif q4.1.1 then
        some ((i.2.2.2 == 0, ()), ())
       else
        some ((false, ()), ()))
      else
       some ((false, ()), ()))
     else
      (bif i.1 == 4 then
       (S99 k 8 i.2.1).bind fun q5 =>
       (bif q5.1.1 then
        (S99 k 8 i.2.2.1).bind fun q6 =>
        (bif q6.1.1 then
         some ((i.2.2.2 == 0, ()), ())
        else
         some ((false, ()), ()))
       else
        some ((false, ()), ()))
      else
       (bif i.1 == 5 then
        (S99 k 8 i.2.1).bind fun q7 =>
        (bif q7.1.1 then
         (bif i.2.2.1 == 0 then
          (bif decide (i.2.2.2 ≥ (-63)) then
           some ((decide (i.2.2.2 ≤ 63), ()), ())
          else
           some ((false, ()), ()))
         else
          some ((false, ()), ()))
        else
         some ((false, ()), ()))
       else
        (bif i.1 == 6 then
         (S99 k 8 i.2.1).bind fun q8 =>
         (bif q8.1.1 then
          (bif i.2.2.1 == 0 then
           (bif decide (i.2.2.2 ≥ 1) then
            some ((decide (i.2.2.2 ≤ 64), ()), ())
           else
            some ((false, ()), ()))
          else
           some ((false, ()), ()))
         else
          some ((false, ()), ()))
        else
         (bif i.1 == 7 then
          (S99 k 8 i.2.1).bind fun q9 =>
          (bif q9.1.1 then
           (bif i.2.2.1 == 0 then
            (bif decide (i.2.2.2 ≥ 1) then
             some ((decide (i.2.2.2 ≤ 24), ()), ())
            else
             some ((false, ()), ()))
           else
            some ((false, ()), ()))
          else
           some ((false, ()), ()))
         else
          (bif i.1 == 8 then
           (bif i.2.1 == 0 then
            (bif decide (i.2.2.1 ≥ 1) then
             (bif decide (i.2.2.1 ≤ 24) then
              (bif decide (i.2.2.2 ≥ 1) then
               some ((decide (i.2.2.2 ≤ 20), ()), ())
              else
               some ((false, ()), ()))
             else
              some ((false, ()), ()))
            else
             some ((false, ()), ()))
           else
            some ((false, ()), ()))
          else
           (bif i.1 == 9 then
            (bif decide (i.2.1 ≥ 0) then
             (bif decide (i.2.1 < 4) then
              (bif i.2.2.1 == 0 then
               some ((i.2.2.2 == 0, ()), ())
              else
               some ((false, ()), ()))
             else
              some ((false, ()), ()))
            else
             some ((false, ()), ()))
           else
            (bif i.1 == 10 then
             (bif decide (i.2.1 ≥ 0) then
              (bif decide (i.2.1 < 4) then
               (bif i.2.2.1 == 0 then
                some ((i.2.2.2 == 0, ()), ())
               else
                some ((false, ()), ()))
              else
               some ((false, ()), ()))
             else
              some ((false, ()), ()))
            else
             some ((false, ()), ())))))))))))))
noncomputable def E82 : Env := tab.env (lk [(99, F99)]) (hintL [])
theorem E82_ok : EnvOK Try.prog E82 := envOK_of tabOK _ _ (allFn_lk (l := [(99, F99)]) ⟨ok99, trivial⟩)
noncomputable def B82 (k : Nat) : Tbl (RD R82 × MD P82) := .nil
noncomputable def F82 : Fn := ⟨P82, R82, fun k x => S82 k x.1⟩
theorem ok82 : FnOK Try.prog 82 F82 := evalF_ok (E := E82) (T := B82) E82_ok mix Try.func82 rfl (by kernel_rfl) (by kernel_rfl) (fun k => by kernel_rfl) (fun k x => by kernel_rfl)
noncomputable abbrev P83 : List PT := [.val ⟨false, Y4_2, false⟩]
noncomputable abbrev R83 : List RT := [.val ⟨false, (.sl 114 Y4_6), true⟩]
noncomputable abbrev c83_L3 : Cut := ⟨[0, 3, 4], [.cell Y4_2, .own 114 Y4_6, .cell (.int .i64)], [], 49⟩
noncomputable def l83_3 (k : Nat) (g3 : (List Y4_0) → (List Y4_1) → Int → Option Y4_14) (l_1 : List Y4_0) (out : List Y4_1) (i : Int) : Option Y4_14 :=
 (bif decide (i < (l_1.length : Int)) then
  ix l_1 i <|
  (bif (rd l_1 i (0, 0, 0, 0)).1 == 7 then
   ix l_1 i <|
   ap out ([(IntKind.i64.wrap (i + 1), IntKind.i64.wrap (i + (rd l_1 i (0, 0, 0, 0)).2.2.2), i, false)] : List Y4_1) 32 fun r0 =>
   g3 l_1 r0 (IntKind.i64.wrap (i + 1))
  else
   (bif (rd l_1 i (0, 0, 0, 0)).1 == 8 then
    ix l_1 i <|
    ap out ([(IntKind.i64.wrap (i + 1), IntKind.i64.wrap (i + (rd l_1 i (0, 0, 0, 0)).2.2.1), i, true)] : List Y4_1) 32 fun r1 =>
    g3 l_1 r1 (IntKind.i64.wrap (i + 1))
   else
    g3 l_1 out (IntKind.i64.wrap (i + 1))))
 else
  some ((out, ()), ()))
noncomputable def b83_3 (k : Nat) (g : ((Unit) × (List Y4_0) × (List Y4_1) × Int × Unit) → Option Y4_14) (d : (Unit) × (List Y4_0) × (List Y4_1) × Int × Unit) : Option Y4_14 := l83_3 k (fun l_1 out i => g ((), l_1, out, i, ())) d.2.1 d.2.2.1 d.2.2.2.1
noncomputable def L83_3 (k : Nat) (j : Nat) (l_1 : List Y4_0) (out : List Y4_1) (i : Int) : Option Y4_14 := iter (R := ((List Y4_1) × Unit) × Unit) c83_L3 (b83_3 k) j ((), l_1, out, i, ())
theorem L83_3_s (k : Nat) (j : Nat) (l_1 : List Y4_0) (out : List Y4_1) (i : Int) : L83_3 k (j + 1) l_1 out i = l83_3 k (L83_3 k j) l_1 out i := iter_succ _ _ _ _
noncomputable def S83 (k : Nat) (l_ : List Y4_0) : Option Y4_14 :=
 L83_3 k k l_ ([] : List Y4_1) 0
noncomputable def E83 : Env := tab.env (lk []) (hintL [(3, 2)])
theorem E83_ok : EnvOK Try.prog E83 := envOK_of tabOK _ _ (fun f F h => by cases h)
noncomputable def B83 (k : Nat) : Tbl (RD R83 × MD P83) := (.loop 3 c83_L3 (b83_3 k) (fun g => .nil) .nil)
noncomputable def F83 : Fn := ⟨P83, R83, fun k x => S83 k x.1⟩
theorem ok83 : FnOK Try.prog 83 F83 := evalF_ok (E := E83) (T := B83) E83_ok mix Try.func83 rfl (by kernel_rfl) (by kernel_rfl) (fun k => by kernel_rfl) (fun k x => by kernel_rfl)
noncomputable abbrev P84 : List PT := [.val ⟨true, Y4_6, false⟩, .val ⟨false, (.int .i64), false⟩]
noncomputable abbrev R84 : List RT := [.val ⟨false, .bool, true⟩]
noncomputable def S84 (k : Nat) (a : Int × Int × Int × Bool) (i : Int) : Option Y4_5 :=
 (bif decide (a.1 ≤ i) then
  some ((decide (i ≤ a.2.1), ()), ())
 else
  some ((false, ()), ()))
noncomputable def E84 : Env := tab.env (lk []) (hintL [])
theorem E84_ok : EnvOK Try.prog E84 := envOK_of tabOK _ _ (fun f F h => by cases h)
noncomputable def B84 (k : Nat) : Tbl (RD R84 × MD P84) := .nil
noncomputable def F84 : Fn := ⟨P84, R84, fun k x => S84 k x.1 x.2.1⟩
theorem ok84 : FnOK Try.prog 84 F84 := evalF_ok (E := E84) (T := B84) E84_ok mix Try.func84 rfl (by kernel_rfl) (by kernel_rfl) (fun k => by kernel_rfl) (fun k x => by kernel_rfl)
noncomputable abbrev P62 : List PT := [.val ⟨false, Y4_2, false⟩]
noncomputable abbrev R62 : List RT := [.val ⟨false, (.sl 3 (.int .i64)), true⟩, .val ⟨false, .bool, true⟩]
noncomputable abbrev c62_L10 : Cut := ⟨[0, 4, 5, 6, 7, 8], [.cell Y4_2, .own 3 (.int .i64), .own 3 (.int .i64), .own 114 Y4_6, .cell (.int .i64), .cell (.int .i64)], [], 117⟩
noncomputable def l62_10 (k : Nat) (g5 : Y4_4) (g10 : (List Y4_0) → (List Int) → (List Int) → (List Y4_1) → Int → Int → Option Y4_8) (l_2 : List Y4_0) (out1 : List Int) (open_1 : List Int) (a1 : List Y4_1) (i1 : Int) (k_ : Int) : Option Y4_8 :=
 (bif decide (k_ < (open_1.length : Int)) then
  ix open_1 k_ <|
  ix l_2 (rd open_1 k_ 0) <|
  ix l_2 i1 <|
  (bif (rd l_2 (rd open_1 k_ 0) (0, 0, 0, 0)).2.1 == (rd l_2 i1 (0, 0, 0, 0)).2.1 then
   some (([], false, ()), ())
  else
   g10 l_2 out1 open_1 a1 i1 (IntKind.i64.wrap (k_ + 1)))
 else
  ap open_1 ([i1] : List Int) 8 fun r1 =>
  (bif decide ((r1.length : Int) > 2) then
   some (([], false, ()), ())
  else
   g5 l_2 out1 r1 a1 (IntKind.i64.wrap (i1 + 1))))
noncomputable def b62_10 (k : Nat) (g5 : Y4_4) (g : ((Unit) × (List Y4_0) × (List Int) × (List Int) × (List Y4_1) × Int × Int × Unit) → Option Y4_8) (d : (Unit) × (List Y4_0) × (List Int) × (List Int) × (List Y4_1) × Int × Int × Unit) : Option Y4_8 := l62_10 k g5 (fun l_2 out1 open_1 a1 i1 k_ => g ((), l_2, out1, open_1, a1, i1, k_, ())) d.2.1 d.2.2.1 d.2.2.2.1 d.2.2.2.2.1 d.2.2.2.2.2.1 d.2.2.2.2.2.2.1
noncomputable def L62_10 (k : Nat) (g5 : Y4_4) (j : Nat) (l_2 : List Y4_0) (out1 : List Int) (open_1 : List Int) (a1 : List Y4_1) (i1 : Int) (k_ : Int) : Option Y4_8 := iter (R := ((List Int) × Bool × Unit) × Unit) c62_L10 (b62_10 k g5) j ((), l_2, out1, open_1, a1, i1, k_, ())
theorem L62_10_s (k : Nat) (g5 : Y4_4) (j : Nat) (l_2 : List Y4_0) (out1 : List Int) (open_1 : List Int) (a1 : List Y4_1) (i1 : Int) (k_ : Int) : L62_10 k g5 (j + 1) l_2 out1 open_1 a1 i1 k_ = l62_10 k g5 (L62_10 k g5 j) l_2 out1 open_1 a1 i1 k_ := iter_succ _ _ _ _
noncomputable abbrev c62_L23 : Cut := ⟨[0, 4, 5, 6, 7, 9, 10], [.cell Y4_2, .own 3 (.int .i64), .own 3 (.int .i64), .own 114 Y4_6, .cell (.int .i64), .cell (.int .i64), .cell (.int .i64)], [], 117⟩
noncomputable def l62_23 (k : Nat) (g5 : Y4_4) (g23 : (List Y4_0) → (List Int) → (List Int) → (List Y4_1) → Int → Int → Int → Option Y4_8) (l_3 : List Y4_0) (out2 : List Int) (open_2 : List Int) (a2 : List Y4_1) (i2 : Int) (k_1 : Int) (n : Int) : Option Y4_8 :=
 (bif decide (n < (a2.length : Int)) then
  ix a2 n <|
  (S84 k (rd a2 n (0, 0, 0, false)) k_1).bind fun q2 =>
  ix a2 n <|
  (S84 k (rd a2 n (0, 0, 0, false)) i2).bind fun q3 =>
  (bif !(q2.1.1 == q3.1.1) then
   some (([], false, ()), ())
  else
   g23 l_3 out2 open_2 a2 i2 k_1 (IntKind.i64.wrap (n + 1)))
 else
  ix out2 k_1 <|
  g5 l_3 (upd out2 k_1 i2) open_2 a2 (IntKind.i64.wrap (i2 + 1)))
noncomputable def b62_23 (k : Nat) (g5 : Y4_4) (g : ((Unit) × (List Y4_0) × (List Int) × (List Int) × (List Y4_1) × Int × Int × Int × Unit) → Option Y4_8) (d : (Unit) × (List Y4_0) × (List Int) × (List Int) × (List Y4_1) × Int × Int × Int × Unit) : Option Y4_8 := l62_23 k g5 (fun l_3 out2 open_2 a2 i2 k_1 n => g ((), l_3, out2, open_2, a2, i2, k_1, n, ())) d.2.1 d.2.2.1 d.2.2.2.1 d.2.2.2.2.1 d.2.2.2.2.2.1 d.2.2.2.2.2.2.1 d.2.2.2.2.2.2.2.1
noncomputable def L62_23 (k : Nat) (g5 : Y4_4) (j : Nat) (l_3 : List Y4_0) (out2 : List Int) (open_2 : List Int) (a2 : List Y4_1) (i2 : Int) (k_1 : Int) (n : Int) : Option Y4_8 := iter (R := ((List Int) × Bool × Unit) × Unit) c62_L23 (b62_23 k g5) j ((), l_3, out2, open_2, a2, i2, k_1, n, ())
theorem L62_23_s (k : Nat) (g5 : Y4_4) (j : Nat) (l_3 : List Y4_0) (out2 : List Int) (open_2 : List Int) (a2 : List Y4_1) (i2 : Int) (k_1 : Int) (n : Int) : L62_23 k g5 (j + 1) l_3 out2 open_2 a2 i2 k_1 n = l62_23 k g5 (L62_23 k g5 j) l_3 out2 open_2 a2 i2 k_1 n := iter_succ _ _ _ _
noncomputable abbrev c62_L5 : Cut := ⟨[0, 4, 5, 6, 7], [.cell Y4_2, .own 3 (.int .i64), .own 3 (.int .i64), .own 114 Y4_6, .cell (.int .i64)], [], 117⟩
noncomputable def l62_5 (k : Nat) (g5 : Y4_4) (l_1 : List Y4_0) (out : List Int) (open_ : List Int) (a : List Y4_1) (i : Int) : Option Y4_8 :=
 (bif decide (i < (l_1.length : Int)) then
  ix l_1 i <|
  (bif (rd l_1 i (0, 0, 0, 0)).1 == 9 then
   L62_10 k g5 k l_1 out open_ a i 0
  else
   (bif (rd l_1 i (0, 0, 0, 0)).1 == 10 then
    (bif (open_.length : Int) == 0 then
     some (([], false, ()), ())
    else
     ix open_ (IntKind.i64.wrap ((open_.length : Int) - 1)) <|
     ix l_1 (rd open_ (IntKind.i64.wrap ((open_.length : Int) - 1)) 0) <|
     ix l_1 i <|
     (bif (rd l_1 (rd open_ (IntKind.i64.wrap ((open_.length : Int) - 1)) 0) (0, 0, 0, 0)).2.1 != (rd l_1 i (0, 0, 0, 0)).2.1 then
      some (([], false, ()), ())
     else
      ix open_ (IntKind.i64.wrap ((open_.length : Int) - 1)) <|
      sx open_ 0 (IntKind.i64.wrap ((open_.length : Int) - 1)) <|
      L62_23 k g5 k l_1 out (open_.take (IntKind.i64.wrap ((open_.length : Int) - 1)).toNat) a i (rd open_ (IntKind.i64.wrap ((open_.length : Int) - 1)) 0) 0))
   else
    g5 l_1 out open_ a (IntKind.i64.wrap (i + 1))))
 else
  (bif decide ((open_.length : Int) > 0) then
   some (([], false, ()), ())
  else
   some ((out, true, ()), ())))
noncomputable def b62_5 (k : Nat) (g : ((Unit) × (List Y4_0) × (List Int) × (List Int) × (List Y4_1) × Int × Unit) → Option Y4_8) (d : (Unit) × (List Y4_0) × (List Int) × (List Int) × (List Y4_1) × Int × Unit) : Option Y4_8 := l62_5 k (fun l_1 out open_ a i => g ((), l_1, out, open_, a, i, ())) d.2.1 d.2.2.1 d.2.2.2.1 d.2.2.2.2.1 d.2.2.2.2.2.1
noncomputable def L62_5 (k : Nat) (j : Nat) (l_1 : List Y4_0) (out : List Int) (open_ : List Int) (a : List Y4_1) (i : Int) : Option Y4_8 := iter (R := ((List Int) × Bool × Unit) × Unit) c62_L5 (b62_5 k) j ((), l_1, out, open_, a, i, ())
theorem L62_5_s (k : Nat) (j : Nat) (l_1 : List Y4_0) (out : List Int) (open_ : List Int) (a : List Y4_1) (i : Int) : L62_5 k (j + 1) l_1 out open_ a i = l62_5 k (L62_5 k j) l_1 out open_ a i := iter_succ _ _ _ _
noncomputable def S62 (k : Nat) (l_ : List Y4_0) : Option Y4_8 :=
 mk (l_.length : Int) (l_.length : Int) 8 <|
 (S83 k l_).bind fun q0 =>
 L62_5 k k l_ (List.replicate (l_.length : Int).toNat (0 : Int)) ([] : List Int) q0.1.1 0
noncomputable def E62 : Env := tab.env (lk [(83, F83), (84, F84)]) (hintL [(5, 2), (89, 1)])
theorem E62_ok : EnvOK Try.prog E62 := envOK_of tabOK _ _ (allFn_lk (l := [(83, F83), (84, F84)]) ⟨ok83, ok84, trivial⟩)
noncomputable def B62 (k : Nat) : Tbl (RD R62 × MD P62) := (.loop 5 c62_L5 (b62_5 k) (fun g => (fun (g5 : Y4_4) => (.loop 10 c62_L10 (b62_10 k g5) (fun g => .nil) (.loop 23 c62_L23 (b62_23 k g5) (fun g => .nil) .nil))) (fun l_1 out open_ a i => g ((), l_1, out, open_, a, i, ()))) .nil)
noncomputable def F62 : Fn := ⟨P62, R62, fun k x => S62 k x.1⟩
theorem ok62 : FnOK Try.prog 62 F62 := evalF_ok (E := E62) (T := B62) E62_ok mix Try.func62 rfl (by kernel_rfl) (by kernel_rfl) (fun k => by kernel_rfl) (fun k x => by kernel_rfl)
noncomputable abbrev P85 : List PT := [.val ⟨false, Y4_2, false⟩, .val ⟨false, (.sl 3 (.int .i64)), false⟩, .val ⟨false, (.int .i64), false⟩]
noncomputable abbrev R85 : List RT := [.val ⟨false, (.int .i64), true⟩]
noncomputable abbrev c85_L3 : Cut := ⟨[0, 1, 2, 7, 8], [.cell Y4_2, .cell (.sl 3 (.int .i64)), .cell (.int .i64), .cell (.int .i64), .cell (.int .i64)], [], 37⟩
noncomputable def l85_3 (k : Nat) (g3 : (List Y4_0) → (List Int) → Int → Int → Int → Option ((Int × Unit) × Unit)) (l_1 : List Y4_0) (pairs1 : List Int) (i1 : Int) (n : Int) (k_ : Int) : Option ((Int × Unit) × Unit) :=
 (bif decide (k_ < (l_1.length : Int)) then
  ix l_1 k_ <|
  (bif (rd l_1 k_ (0, 0, 0, 0)).1 == 9 then
   (bif decide (k_ < i1) then
    ix pairs1 k_ <|
    (bif decide (i1 < (rd pairs1 k_ 0)) then
     g3 l_1 pairs1 i1 (IntKind.i64.wrap (n + 1)) (IntKind.i64.wrap (k_ + 1))
    else
     g3 l_1 pairs1 i1 n (IntKind.i64.wrap (k_ + 1)))
   else
    g3 l_1 pairs1 i1 n (IntKind.i64.wrap (k_ + 1)))
  else
   g3 l_1 pairs1 i1 n (IntKind.i64.wrap (k_ + 1)))
 else
  some ((n, ()), ()))
noncomputable def b85_3 (k : Nat) (g : ((Unit) × (List Y4_0) × (List Int) × Int × Int × Int × Unit) → Option ((Int × Unit) × Unit)) (d : (Unit) × (List Y4_0) × (List Int) × Int × Int × Int × Unit) : Option ((Int × Unit) × Unit) := l85_3 k (fun l_1 pairs1 i1 n k_ => g ((), l_1, pairs1, i1, n, k_, ())) d.2.1 d.2.2.1 d.2.2.2.1 d.2.2.2.2.1 d.2.2.2.2.2.1
noncomputable def L85_3 (k : Nat) (j : Nat) (l_1 : List Y4_0) (pairs1 : List Int) (i1 : Int) (n : Int) (k_ : Int) : Option ((Int × Unit) × Unit) := iter (R := (Int × Unit) × Unit) c85_L3 (b85_3 k) j ((), l_1, pairs1, i1, n, k_, ())
theorem L85_3_s (k : Nat) (j : Nat) (l_1 : List Y4_0) (pairs1 : List Int) (i1 : Int) (n : Int) (k_ : Int) : L85_3 k (j + 1) l_1 pairs1 i1 n k_ = l85_3 k (L85_3 k j) l_1 pairs1 i1 n k_ := iter_succ _ _ _ _
noncomputable def S85 (k : Nat) (l_ : List Y4_0) (pairs : List Int) (i : Int) : Option ((Int × Unit) × Unit) :=
 L85_3 k k l_ pairs i 0 0
noncomputable def E85 : Env := tab.env (lk []) (hintL [])
theorem E85_ok : EnvOK Try.prog E85 := envOK_of tabOK _ _ (fun f F h => by cases h)
noncomputable def B85 (k : Nat) : Tbl (RD R85 × MD P85) := (.loop 3 c85_L3 (b85_3 k) (fun g => .nil) .nil)
noncomputable def F85 : Fn := ⟨P85, R85, fun k x => S85 k x.1 x.2.1 x.2.2.1⟩
theorem ok85 : FnOK Try.prog 85 F85 := evalF_ok (E := E85) (T := B85) E85_ok mix Try.func85 rfl (by kernel_rfl) (by kernel_rfl) (fun k => by kernel_rfl) (fun k x => by kernel_rfl)
noncomputable abbrev P60 : List PT := [.val ⟨false, Y4_2, false⟩]
noncomputable abbrev R60 : List RT := [.val ⟨false, .bool, true⟩]
noncomputable abbrev c60_J20 : Cut := ⟨[0, 4, 5, 6, 7, 8], [.cell Y4_2, .own 114 Y4_6, .cell (.int .i64), .cell (.int .i64), .cell .bool, .cell .bool], [], 235⟩
noncomputable def j60_20 (k : Nat) (g10 : Y4_10) (g15 : Y4_13) (l_5 : List Y4_0) (a3 : List Y4_1) (i4 : Int) (k_2 : Int) (apart1 : Bool) (in_ : Bool) : Option Y4_5 :=
 (bif !apart1 then
  (bif !in_ then
   some ((false, ()), ())
  else
   ix a3 i4 <|
   ix a3 k_2 <|
   (S84 k (rd a3 i4 (0, 0, 0, false)) (rd a3 k_2 (0, 0, 0, false)).2.2.1).bind fun q2 =>
   (bif q2.1.1 then
    ix a3 k_2 <|
    ix a3 i4 <|
    (bif decide ((rd a3 k_2 (0, 0, 0, false)).2.1 > (rd a3 i4 (0, 0, 0, false)).2.1) then
     some ((false, ()), ())
    else
     g15 l_5 a3 i4 (IntKind.i64.wrap (k_2 + 1)))
   else
    g15 l_5 a3 i4 (IntKind.i64.wrap (k_2 + 1))))
 else
  ix a3 i4 <|
  ix a3 k_2 <|
  (S84 k (rd a3 i4 (0, 0, 0, false)) (rd a3 k_2 (0, 0, 0, false)).2.2.1).bind fun q3 =>
  (bif q3.1.1 then
   ix a3 k_2 <|
   ix a3 i4 <|
   (bif decide ((rd a3 k_2 (0, 0, 0, false)).2.1 > (rd a3 i4 (0, 0, 0, false)).2.1) then
    some ((false, ()), ())
   else
    g15 l_5 a3 i4 (IntKind.i64.wrap (k_2 + 1)))
  else
   g15 l_5 a3 i4 (IntKind.i64.wrap (k_2 + 1))))
noncomputable abbrev c60_J19 : Cut := ⟨[0, 4, 5, 6, 7], [.cell Y4_2, .own 114 Y4_6, .cell (.int .i64), .cell (.int .i64), .cell .bool], [], 235⟩
noncomputable def j60_19 (k : Nat) (g10 : Y4_10) (g15 : Y4_13) (l_4 : List Y4_0) (a2 : List Y4_1) (i3 : Int) (k_1 : Int) (apart : Bool) : Option Y4_5 :=
 ix a2 i3 <|
 ix a2 k_1 <|
 (bif decide ((rd a2 i3 (0, 0, 0, false)).1 ≤ (rd a2 k_1 (0, 0, 0, false)).1) then
  ix a2 k_1 <|
  ix a2 i3 <|
  (bif decide ((rd a2 k_1 (0, 0, 0, false)).2.1 ≤ (rd a2 i3 (0, 0, 0, false)).2.1) then
   j60_20 k g10 g15 l_4 a2 i3 k_1 apart true
  else
   ix a2 k_1 <|
   ix a2 i3 <|
   (bif decide ((rd a2 k_1 (0, 0, 0, false)).1 ≤ (rd a2 i3 (0, 0, 0, false)).1) then
    ix a2 i3 <|
    ix a2 k_1 <|
    j60_20 k g10 g15 l_4 a2 i3 k_1 apart (decide ((rd a2 i3 (0, 0, 0, false)).2.1 ≤ (rd a2 k_1 (0, 0, 0, false)).2.1))
   else
    j60_20 k g10 g15 l_4 a2 i3 k_1 apart false))
 else
  ix a2 k_1 <|
  ix a2 i3 <|
  (bif decide ((rd a2 k_1 (0, 0, 0, false)).1 ≤ (rd a2 i3 (0, 0, 0, false)).1) then
   ix a2 i3 <|
   ix a2 k_1 <|
   j60_20 k g10 g15 l_4 a2 i3 k_1 apart (decide ((rd a2 i3 (0, 0, 0, false)).2.1 ≤ (rd a2 k_1 (0, 0, 0, false)).2.1))
  else
   j60_20 k g10 g15 l_4 a2 i3 k_1 apart false))
noncomputable abbrev c60_L15 : Cut := ⟨[0, 4, 5, 6], [.cell Y4_2, .own 114 Y4_6, .cell (.int .i64), .cell (.int .i64)], [], 235⟩
noncomputable def l60_15 (k : Nat) (g10 : Y4_10) (g15 : Y4_13) (l_3 : List Y4_0) (a1 : List Y4_1) (i2 : Int) (k_ : Int) : Option Y4_5 :=
 (bif decide (k_ < (a1.length : Int)) then
  (bif i2 == k_ then
   g15 l_3 a1 i2 (IntKind.i64.wrap (k_ + 1))
  else
   ix a1 i2 <|
   ix a1 k_ <|
   (bif decide ((rd a1 i2 (0, 0, 0, false)).2.1 < (rd a1 k_ (0, 0, 0, false)).1) then
    j60_19 k g10 g15 l_3 a1 i2 k_ true
   else
    ix a1 k_ <|
    ix a1 i2 <|
    j60_19 k g10 g15 l_3 a1 i2 k_ (decide ((rd a1 k_ (0, 0, 0, false)).2.1 < (rd a1 i2 (0, 0, 0, false)).1))))
 else
  g10 l_3 a1 (IntKind.i64.wrap (i2 + 1)))
noncomputable def b60_15 (k : Nat) (g10 : Y4_10) (g : ((Unit) × (List Y4_0) × (List Y4_1) × Int × Int × Unit) → Option Y4_5) (d : (Unit) × (List Y4_0) × (List Y4_1) × Int × Int × Unit) : Option Y4_5 := l60_15 k g10 (fun l_3 a1 i2 k_ => g ((), l_3, a1, i2, k_, ())) d.2.1 d.2.2.1 d.2.2.2.1 d.2.2.2.2.1
noncomputable def L60_15 (k : Nat) (g10 : Y4_10) (j : Nat) (l_3 : List Y4_0) (a1 : List Y4_1) (i2 : Int) (k_ : Int) : Option Y4_5 := iter (R := (Bool × Unit) × Unit) c60_L15 (b60_15 k g10) j ((), l_3, a1, i2, k_, ())
theorem L60_15_s (k : Nat) (g10 : Y4_10) (j : Nat) (l_3 : List Y4_0) (a1 : List Y4_1) (i2 : Int) (k_ : Int) : L60_15 k g10 (j + 1) l_3 a1 i2 k_ = l60_15 k g10 (L60_15 k g10 j) l_3 a1 i2 k_ := iter_succ _ _ _ _
noncomputable abbrev c60_L30 : Cut := ⟨[0, 4, 9, 11, 12, 13, 14], [.cell Y4_2, .own 114 Y4_6, .own 3 (.int .i64), .cell (.int .i64), .cell (.int .i64), .cell (.int .i64), .cell (.int .i64)], [], 235⟩
noncomputable def l60_30 (k : Nat) (g26 : Y4_11) (g30 : (List Y4_0) → (List Y4_1) → (List Int) → Int → Int → Int → Int → Option Y4_5) (l_7 : List Y4_0) (a5 : List Y4_1) (pairs1 : List Int) (i6 : Int) (bodies : Int) (all : Int) (k_3 : Int) : Option Y4_5 :=
 (bif decide (k_3 < (a5.length : Int)) then
  ix a5 k_3 <|
  (S84 k (rd a5 k_3 (0, 0, 0, false)) i6).bind fun q5 =>
  (bif q5.1.1 then
   ix a5 k_3 <|
   (bif (rd a5 k_3 (0, 0, 0, false)).2.2.2 then
    g30 l_7 a5 pairs1 i6 (IntKind.i64.wrap (bodies + 1)) (IntKind.i64.wrap (all + 1)) (IntKind.i64.wrap (k_3 + 1))
   else
    g30 l_7 a5 pairs1 i6 bodies (IntKind.i64.wrap (all + 1)) (IntKind.i64.wrap (k_3 + 1)))
  else
   g30 l_7 a5 pairs1 i6 bodies all (IntKind.i64.wrap (k_3 + 1)))
 else
  (bif decide (bodies > 2) then
   some ((false, ()), ())
  else
   ix l_7 i6 <|
   (bif (rd l_7 i6 (0, 0, 0, 0)).1 == 11 then
    (bif decide (all > 0) then
     some ((false, ()), ())
    else
     (S85 k l_7 pairs1 i6).bind fun q6 =>
     (bif decide (q6.1.1 > 0) then
      some ((false, ()), ())
     else
      g26 l_7 a5 pairs1 (IntKind.i64.wrap (i6 + 1))))
   else
    g26 l_7 a5 pairs1 (IntKind.i64.wrap (i6 + 1)))))
noncomputable def b60_30 (k : Nat) (g26 : Y4_11) (g : ((Unit) × (List Y4_0) × (List Y4_1) × (List Int) × Int × Int × Int × Int × Unit) → Option Y4_5) (d : (Unit) × (List Y4_0) × (List Y4_1) × (List Int) × Int × Int × Int × Int × Unit) : Option Y4_5 := l60_30 k g26 (fun l_7 a5 pairs1 i6 bodies all k_3 => g ((), l_7, a5, pairs1, i6, bodies, all, k_3, ())) d.2.1 d.2.2.1 d.2.2.2.1 d.2.2.2.2.1 d.2.2.2.2.2.1 d.2.2.2.2.2.2.1 d.2.2.2.2.2.2.2.1
noncomputable def L60_30 (k : Nat) (g26 : Y4_11) (j : Nat) (l_7 : List Y4_0) (a5 : List Y4_1) (pairs1 : List Int) (i6 : Int) (bodies : Int) (all : Int) (k_3 : Int) : Option Y4_5 := iter (R := (Bool × Unit) × Unit) c60_L30 (b60_30 k g26) j ((), l_7, a5, pairs1, i6, bodies, all, k_3, ())
theorem L60_30_s (k : Nat) (g26 : Y4_11) (j : Nat) (l_7 : List Y4_0) (a5 : List Y4_1) (pairs1 : List Int) (i6 : Int) (bodies : Int) (all : Int) (k_3 : Int) : L60_30 k g26 (j + 1) l_7 a5 pairs1 i6 bodies all k_3 = l60_30 k g26 (L60_30 k g26 j) l_7 a5 pairs1 i6 bodies all k_3 := iter_succ _ _ _ _
noncomputable abbrev c60_L26 : Cut := ⟨[0, 4, 9, 11], [.cell Y4_2, .own 114 Y4_6, .own 3 (.int .i64), .cell (.int .i64)], [], 235⟩
noncomputable def l60_26 (k : Nat) (g26 : Y4_11) (l_6 : List Y4_0) (a4 : List Y4_1) (pairs : List Int) (i5 : Int) : Option Y4_5 :=
 (bif decide (i5 < (l_6.length : Int)) then
  L60_30 k g26 k l_6 a4 pairs i5 0 0 0
 else
  some ((true, ()), ()))
noncomputable def b60_26 (k : Nat) (g : ((Unit) × (List Y4_0) × (List Y4_1) × (List Int) × Int × Unit) → Option Y4_5) (d : (Unit) × (List Y4_0) × (List Y4_1) × (List Int) × Int × Unit) : Option Y4_5 := l60_26 k (fun l_6 a4 pairs i5 => g ((), l_6, a4, pairs, i5, ())) d.2.1 d.2.2.1 d.2.2.2.1 d.2.2.2.2.1
noncomputable def L60_26 (k : Nat) (j : Nat) (l_6 : List Y4_0) (a4 : List Y4_1) (pairs : List Int) (i5 : Int) : Option Y4_5 := iter (R := (Bool × Unit) × Unit) c60_L26 (b60_26 k) j ((), l_6, a4, pairs, i5, ())
theorem L60_26_s (k : Nat) (j : Nat) (l_6 : List Y4_0) (a4 : List Y4_1) (pairs : List Int) (i5 : Int) : L60_26 k (j + 1) l_6 a4 pairs i5 = l60_26 k (L60_26 k j) l_6 a4 pairs i5 := iter_succ _ _ _ _
noncomputable abbrev c60_L10 : Cut := ⟨[0, 4, 5], [.cell Y4_2, .own 114 Y4_6, .cell (.int .i64)], [], 235⟩
noncomputable def l60_10 (k : Nat) (g10 : Y4_10) (l_2 : List Y4_0) (a : List Y4_1) (i1 : Int) : Option Y4_5 :=
 (bif decide (i1 < (a.length : Int)) then
  ix a i1 <|
  (bif decide ((rd a i1 (0, 0, 0, false)).2.1 ≥ (IntKind.i64.wrap ((l_2.length : Int) - 1))) then
   some ((false, ()), ())
  else
   L60_15 k g10 k l_2 a i1 0)
 else
  (S62 k l_2).bind fun q4 =>
  (bif !q4.1.2.1 then
   some ((false, ()), ())
  else
   L60_26 k k l_2 a q4.1.1 0))
noncomputable def b60_10 (k : Nat) (g : ((Unit) × (List Y4_0) × (List Y4_1) × Int × Unit) → Option Y4_5) (d : (Unit) × (List Y4_0) × (List Y4_1) × Int × Unit) : Option Y4_5 := l60_10 k (fun l_2 a i1 => g ((), l_2, a, i1, ())) d.2.1 d.2.2.1 d.2.2.2.1
noncomputable def L60_10 (k : Nat) (j : Nat) (l_2 : List Y4_0) (a : List Y4_1) (i1 : Int) : Option Y4_5 := iter (R := (Bool × Unit) × Unit) c60_L10 (b60_10 k) j ((), l_2, a, i1, ())
theorem L60_10_s (k : Nat) (j : Nat) (l_2 : List Y4_0) (a : List Y4_1) (i1 : Int) : L60_10 k (j + 1) l_2 a i1 = l60_10 k (L60_10 k j) l_2 a i1 := iter_succ _ _ _ _
noncomputable abbrev c60_L4 : Cut := ⟨[0, 3], [.cell Y4_2, .cell (.int .i64)], [], 235⟩
noncomputable def l60_4 (k : Nat) (g4 : (List Y4_0) → Int → Option Y4_5) (l_1 : List Y4_0) (i : Int) : Option Y4_5 :=
 (bif decide (i < (l_1.length : Int)) then
  ix l_1 i <|
  (S82 k (rd l_1 i (0, 0, 0, 0))).bind fun q0 =>
  (bif !q0.1.1 then
   some ((false, ()), ())
  else
   ix l_1 i <|
   (bif !(((rd l_1 i (0, 0, 0, 0)).1 == 0) == (i == (IntKind.i64.wrap ((l_1.length : Int) - 1)))) then
    some ((false, ()), ())
   else
    g4 l_1 (IntKind.i64.wrap (i + 1))))
 else
  (S83 k l_1).bind fun q1 =>
  L60_10 k k l_1 q1.1.1 0)
noncomputable def b60_4 (k : Nat) (g : ((Unit) × (List Y4_0) × Int × Unit) → Option Y4_5) (d : (Unit) × (List Y4_0) × Int × Unit) : Option Y4_5 := l60_4 k (fun l_1 i => g ((), l_1, i, ())) d.2.1 d.2.2.1
noncomputable def L60_4 (k : Nat) (j : Nat) (l_1 : List Y4_0) (i : Int) : Option Y4_5 := iter (R := (Bool × Unit) × Unit) c60_L4 (b60_4 k) j ((), l_1, i, ())
theorem L60_4_s (k : Nat) (j : Nat) (l_1 : List Y4_0) (i : Int) : L60_4 k (j + 1) l_1 i = l60_4 k (L60_4 k j) l_1 i := iter_succ _ _ _ _
noncomputable def S60 (k : Nat) (l_ : List Y4_0) : Option Y4_5 :=
 (bif decide ((l_.length : Int) < 1) then
  some ((false, ()), ())
 else
  (bif decide ((l_.length : Int) > 24) then
   some ((false, ()), ())
  else
   L60_4 k k l_ 0))
noncomputable def E60 : Env := tab.env (lk [(62, F62), (82, F82), (83, F83), (84, F84), (85, F85)]) (hintL [])
theorem E60_ok : EnvOK Try.prog E60 := envOK_of tabOK _ _ (allFn_lk (l := [(62, F62), (82, F82), (83, F83), (84, F84), (85, F85)]) ⟨ok62, ok82, ok83, ok84, ok85, trivial⟩)
noncomputable def B60 (k : Nat) : Tbl (RD R60 × MD P60) := (.loop 26 c60_L26 (b60_26 k) (fun g => (fun (g26 : Y4_11) => (.loop 30 c60_L30 (b60_30 k g26) (fun g => .nil) .nil)) (fun l_6 a4 pairs i5 => g ((), l_6, a4, pairs, i5, ()))) (.loop 10 c60_L10 (b60_10 k) (fun g => (fun (g10 : Y4_10) => (.loop 15 c60_L15 (b60_15 k g10) (fun g => (fun (g15 : Y4_13) => (.join 20 c60_J20 (fun d => j60_20 k g10 g15 d.2.1 d.2.2.1 d.2.2.2.1 d.2.2.2.2.1 d.2.2.2.2.2.1 d.2.2.2.2.2.2.1) (.join 19 c60_J19 (fun d => j60_19 k g10 g15 d.2.1 d.2.2.1 d.2.2.2.1 d.2.2.2.2.1 d.2.2.2.2.2.1) .nil))) (fun l_3 a1 i2 k_ => g ((), l_3, a1, i2, k_, ()))) .nil)) (fun l_2 a i1 => g ((), l_2, a, i1, ()))) (.loop 4 c60_L4 (b60_4 k) (fun g => .nil) .nil)))
noncomputable def F60 : Fn := ⟨P60, R60, fun k x => S60 k x.1⟩
theorem ok60 : FnOK Try.prog 60 F60 := evalF_ok (E := E60) (T := B60) E60_ok mix Try.func60 rfl (by kernel_rfl) (by kernel_rfl) (fun k => by kernel_rfl) (fun k x => by kernel_rfl)
noncomputable abbrev P61 : List PT := [.val ⟨false, Y4_2, false⟩]
noncomputable abbrev R61 : List RT := [.val ⟨false, (.sl 2 (.int .i64)), true⟩]
noncomputable abbrev c61_L8 : Cut := ⟨[0, 3, 4, 5, 6], [.cell Y4_2, .own 2 (.int .i64), .own 114 Y4_6, .cell (.int .i64), .cell (.int .i64)], [], 58⟩
noncomputable def l61_8 (k : Nat) (g4 : Y4_9) (g8 : (List Y4_0) → (List Int) → (List Y4_1) → Int → Int → Option Y4_12) (l_2 : List Y4_0) (out1 : List Int) (a1 : List Y4_1) (i1 : Int) (k_ : Int) : Option Y4_12 :=
 (bif decide (k_ < (a1.length : Int)) then
  ix a1 k_ <|
  (bif (rd a1 k_ (0, 0, 0, false)).2.2.2 then
   ix a1 k_ <|
   (S84 k (rd a1 k_ (0, 0, 0, false)) i1).bind fun q1 =>
   (bif q1.1.1 then
    ix out1 i1 <|
    ix a1 k_ <|
    ix l_2 (rd a1 k_ (0, 0, 0, false)).2.2.1 <|
    ix out1 i1 <|
    g8 l_2 (upd out1 i1 (IntKind.i64.wrap ((rd out1 i1 0) * (rd l_2 (rd a1 k_ (0, 0, 0, false)).2.2.1 (0, 0, 0, 0)).2.2.2))) a1 i1 (IntKind.i64.wrap (k_ + 1))
   else
    g8 l_2 out1 a1 i1 (IntKind.i64.wrap (k_ + 1)))
  else
   g8 l_2 out1 a1 i1 (IntKind.i64.wrap (k_ + 1)))
 else
  g4 l_2 out1 a1 (IntKind.i64.wrap (i1 + 1)))
noncomputable def b61_8 (k : Nat) (g4 : Y4_9) (g : ((Unit) × (List Y4_0) × (List Int) × (List Y4_1) × Int × Int × Unit) → Option Y4_12) (d : (Unit) × (List Y4_0) × (List Int) × (List Y4_1) × Int × Int × Unit) : Option Y4_12 := l61_8 k g4 (fun l_2 out1 a1 i1 k_ => g ((), l_2, out1, a1, i1, k_, ())) d.2.1 d.2.2.1 d.2.2.2.1 d.2.2.2.2.1 d.2.2.2.2.2.1
noncomputable def L61_8 (k : Nat) (g4 : Y4_9) (j : Nat) (l_2 : List Y4_0) (out1 : List Int) (a1 : List Y4_1) (i1 : Int) (k_ : Int) : Option Y4_12 := iter (R := ((List Int) × Unit) × Unit) c61_L8 (b61_8 k g4) j ((), l_2, out1, a1, i1, k_, ())
theorem L61_8_s (k : Nat) (g4 : Y4_9) (j : Nat) (l_2 : List Y4_0) (out1 : List Int) (a1 : List Y4_1) (i1 : Int) (k_ : Int) : L61_8 k g4 (j + 1) l_2 out1 a1 i1 k_ = l61_8 k g4 (L61_8 k g4 j) l_2 out1 a1 i1 k_ := iter_succ _ _ _ _
noncomputable abbrev c61_L4 : Cut := ⟨[0, 3, 4, 5], [.cell Y4_2, .own 2 (.int .i64), .own 114 Y4_6, .cell (.int .i64)], [], 58⟩
noncomputable def l61_4 (k : Nat) (g4 : Y4_9) (l_1 : List Y4_0) (out : List Int) (a : List Y4_1) (i : Int) : Option Y4_12 :=
 (bif decide (i < (l_1.length : Int)) then
  ix out i <|
  L61_8 k g4 k l_1 (upd out i 1) a i 0
 else
  some ((out, ()), ()))
noncomputable def b61_4 (k : Nat) (g : ((Unit) × (List Y4_0) × (List Int) × (List Y4_1) × Int × Unit) → Option Y4_12) (d : (Unit) × (List Y4_0) × (List Int) × (List Y4_1) × Int × Unit) : Option Y4_12 := l61_4 k (fun l_1 out a i => g ((), l_1, out, a, i, ())) d.2.1 d.2.2.1 d.2.2.2.1 d.2.2.2.2.1
noncomputable def L61_4 (k : Nat) (j : Nat) (l_1 : List Y4_0) (out : List Int) (a : List Y4_1) (i : Int) : Option Y4_12 := iter (R := ((List Int) × Unit) × Unit) c61_L4 (b61_4 k) j ((), l_1, out, a, i, ())
theorem L61_4_s (k : Nat) (j : Nat) (l_1 : List Y4_0) (out : List Int) (a : List Y4_1) (i : Int) : L61_4 k (j + 1) l_1 out a i = l61_4 k (L61_4 k j) l_1 out a i := iter_succ _ _ _ _
noncomputable def S61 (k : Nat) (l_ : List Y4_0) : Option Y4_12 :=
 mk (l_.length : Int) (l_.length : Int) 8 <|
 (S83 k l_).bind fun q0 =>
 L61_4 k k l_ (List.replicate (l_.length : Int).toNat (0 : Int)) q0.1.1 0
noncomputable def E61 : Env := tab.env (lk [(83, F83), (84, F84)]) (hintL [])
theorem E61_ok : EnvOK Try.prog E61 := envOK_of tabOK _ _ (allFn_lk (l := [(83, F83), (84, F84)]) ⟨ok83, ok84, trivial⟩)
noncomputable def B61 (k : Nat) : Tbl (RD R61 × MD P61) := (.loop 4 c61_L4 (b61_4 k) (fun g => (fun (g4 : Y4_9) => (.loop 8 c61_L8 (b61_8 k g4) (fun g => .nil) .nil)) (fun l_1 out a i => g ((), l_1, out, a, i, ()))) .nil)
noncomputable def F61 : Fn := ⟨P61, R61, fun k x => S61 k x.1⟩
theorem ok61 : FnOK Try.prog 61 F61 := evalF_ok (E := E61) (T := B61) E61_ok mix Try.func61 rfl (by kernel_rfl) (by kernel_rfl) (fun k => by kernel_rfl) (fun k x => by kernel_rfl)
noncomputable abbrev P45 : List PT := [.val ⟨false, Y4_2, false⟩]
noncomputable abbrev R45 : List RT := [.val ⟨true, (.pair (.int .i64) (.pair (.int .i64) (.sl 73 Y4_16))), true⟩, .val ⟨false, .bool, true⟩]
noncomputable abbrev c45_L16 : Cut := ⟨[0, 2, 4, 5, 6, 8, 9, 10, 11], [.cell Y4_2, .box 75 [.cell (.int .i64), .cell (.int .i64), .nil], .box 75 [.cell (.int .i64), .cell (.int .i64), .own 73 Y4_16], .own 2 (.int .i64), .own 3 (.int .i64), .cell (.int .i64), .cell (.int .i64), .cell (.int .i64), .cell (.int .i64)], [], 103⟩
noncomputable def l45_16 (k : Nat) (g8 : Y4_3) (g16 : (List Y4_0) → Int → Int → Int → Int → (List (Int × Int)) → (List Int) → (List Int) → Int → Int → Int → Int → Option Y4_7) (l_3 : List Y4_0) (t2_4 : Int) (t2_5 : Int) (c6 : Int) (c7 : Int) (c8 : List (Int × Int)) (t3 : List Int) (pairs2 : List Int) (piece2 : Int) (i2 : Int) (n : Int) (k_ : Int) : Option Y4_7 :=
 ix pairs2 i2 <|
 (bif decide (k_ ≤ (rd pairs2 i2 0)) then
  ix t3 k_ <|
  g16 l_3 t2_4 t2_5 c6 c7 c8 t3 pairs2 piece2 i2 (IntKind.i64.wrap (n + (rd t3 k_ 0))) (IntKind.i64.wrap (k_ + 1))
 else
  ix l_3 i2 <|
  ix t3 i2 <|
  nz (rd t3 i2 0) <|
  ap c8 ([((rd l_3 i2 (0, 0, 0, 0)).2.1, IntKind.i64.wrap (Int.tdiv n (rd t3 i2 0)))] : List (Int × Int)) 16 fun r3 =>
  g8 l_3 t2_4 t2_5 c6 c7 r3 t3 pairs2 piece2 (IntKind.i64.wrap (i2 + 1)))
noncomputable def b45_16 (k : Nat) (g8 : Y4_3) (g : ((Unit) × (List Y4_0) × (Int × Int × Unit × Unit) × Y4_15 × (List Int) × (List Int) × Int × Int × Int × Int × Unit) → Option Y4_7) (d : (Unit) × (List Y4_0) × (Int × Int × Unit × Unit) × Y4_15 × (List Int) × (List Int) × Int × Int × Int × Int × Unit) : Option Y4_7 := l45_16 k g8 (fun l_3 t2_4 t2_5 c6 c7 c8 t3 pairs2 piece2 i2 n k_ => g ((), l_3, (t2_4, t2_5, (), ()), (c6, c7, c8, ()), t3, pairs2, piece2, i2, n, k_, ())) d.2.1 d.2.2.1.1 d.2.2.1.2.1 d.2.2.2.1.1 d.2.2.2.1.2.1 d.2.2.2.1.2.2.1 d.2.2.2.2.1 d.2.2.2.2.2.1 d.2.2.2.2.2.2.1 d.2.2.2.2.2.2.2.1 d.2.2.2.2.2.2.2.2.1 d.2.2.2.2.2.2.2.2.2.1
noncomputable def L45_16 (k : Nat) (g8 : Y4_3) (j : Nat) (l_3 : List Y4_0) (t2_4 : Int) (t2_5 : Int) (c6 : Int) (c7 : Int) (c8 : List (Int × Int)) (t3 : List Int) (pairs2 : List Int) (piece2 : Int) (i2 : Int) (n : Int) (k_ : Int) : Option Y4_7 := iter (R := ((Int × Int × List (Int × Int)) × Bool × Unit) × Unit) c45_L16 (b45_16 k g8) j ((), l_3, (t2_4, t2_5, (), ()), (c6, c7, c8, ()), t3, pairs2, piece2, i2, n, k_, ())
theorem L45_16_s (k : Nat) (g8 : Y4_3) (j : Nat) (l_3 : List Y4_0) (t2_4 : Int) (t2_5 : Int) (c6 : Int) (c7 : Int) (c8 : List (Int × Int)) (t3 : List Int) (pairs2 : List Int) (piece2 : Int) (i2 : Int) (n : Int) (k_ : Int) : L45_16 k g8 (j + 1) l_3 t2_4 t2_5 c6 c7 c8 t3 pairs2 piece2 i2 n k_ = l45_16 k g8 (L45_16 k g8 j) l_3 t2_4 t2_5 c6 c7 c8 t3 pairs2 piece2 i2 n k_ := iter_succ _ _ _ _
noncomputable abbrev c45_J13 : Cut := ⟨[0, 2, 4, 5, 6, 8, 9], [.cell Y4_2, .box 75 [.cell (.int .i64), .cell (.int .i64), .nil], .box 75 [.cell (.int .i64), .cell (.int .i64), .own 73 Y4_16], .own 2 (.int .i64), .own 3 (.int .i64), .cell (.int .i64), .cell (.int .i64)], [], 103⟩
noncomputable def j45_13 (k : Nat) (g8 : Y4_3) (l_2 : List Y4_0) (t2_2 : Int) (t2_3 : Int) (c3 : Int) (c4 : Int) (c5 : List (Int × Int)) (t1 : List Int) (pairs1 : List Int) (piece1 : Int) (i1 : Int) : Option Y4_7 :=
 ix l_2 i1 <|
 (bif (rd l_2 i1 (0, 0, 0, 0)).1 == 9 then
  L45_16 k g8 k l_2 t2_2 t2_3 c3 c4 c5 t1 pairs1 piece1 i1 0 (IntKind.i64.wrap (i1 + 1))
 else
  g8 l_2 t2_2 t2_3 c3 c4 c5 t1 pairs1 piece1 (IntKind.i64.wrap (i1 + 1)))
noncomputable abbrev c45_L8 : Cut := ⟨[0, 2, 4, 5, 6, 8, 9], [.cell Y4_2, .box 75 [.cell (.int .i64), .cell (.int .i64), .nil], .box 75 [.cell (.int .i64), .cell (.int .i64), .own 73 Y4_16], .own 2 (.int .i64), .own 3 (.int .i64), .cell (.int .i64), .cell (.int .i64)], [], 103⟩
noncomputable def l45_8 (k : Nat) (g8 : Y4_3) (l_1 : List Y4_0) (t2 : Int) (t2_1 : Int) (c : Int) (c1 : Int) (c2 : List (Int × Int)) (t : List Int) (pairs : List Int) (piece : Int) (i : Int) : Option Y4_7 :=
 (bif decide (i < (l_1.length : Int)) then
  ix t i <|
  ix t i <|
  ix l_1 i <|
  (bif (rd l_1 i (0, 0, 0, 0)).1 == 11 then
   j45_13 k g8 l_1 t2 t2_1 (IntKind.i64.wrap (c + (rd t i 0))) (mx c1 (IntKind.i64.wrap (piece + (rd t i 0)))) c2 t pairs 0 i
  else
   ix l_1 i <|
   (bif (rd l_1 i (0, 0, 0, 0)).1 == 0 then
    j45_13 k g8 l_1 t2 t2_1 (IntKind.i64.wrap (c + (rd t i 0))) (mx c1 (IntKind.i64.wrap (piece + (rd t i 0)))) c2 t pairs 0 i
   else
    j45_13 k g8 l_1 t2 t2_1 (IntKind.i64.wrap (c + (rd t i 0))) c1 c2 t pairs (IntKind.i64.wrap (piece + (rd t i 0))) i))
 else
  some (((c, c1, c2), true, ()), ()))
noncomputable def b45_8 (k : Nat) (g : ((Unit) × (List Y4_0) × (Int × Int × Unit × Unit) × Y4_15 × (List Int) × (List Int) × Int × Int × Unit) → Option Y4_7) (d : (Unit) × (List Y4_0) × (Int × Int × Unit × Unit) × Y4_15 × (List Int) × (List Int) × Int × Int × Unit) : Option Y4_7 := l45_8 k (fun l_1 t2 t2_1 c c1 c2 t pairs piece i => g ((), l_1, (t2, t2_1, (), ()), (c, c1, c2, ()), t, pairs, piece, i, ())) d.2.1 d.2.2.1.1 d.2.2.1.2.1 d.2.2.2.1.1 d.2.2.2.1.2.1 d.2.2.2.1.2.2.1 d.2.2.2.2.1 d.2.2.2.2.2.1 d.2.2.2.2.2.2.1 d.2.2.2.2.2.2.2.1
noncomputable def L45_8 (k : Nat) (j : Nat) (l_1 : List Y4_0) (t2 : Int) (t2_1 : Int) (c : Int) (c1 : Int) (c2 : List (Int × Int)) (t : List Int) (pairs : List Int) (piece : Int) (i : Int) : Option Y4_7 := iter (R := ((Int × Int × List (Int × Int)) × Bool × Unit) × Unit) c45_L8 (b45_8 k) j ((), l_1, (t2, t2_1, (), ()), (c, c1, c2, ()), t, pairs, piece, i, ())
theorem L45_8_s (k : Nat) (j : Nat) (l_1 : List Y4_0) (t2 : Int) (t2_1 : Int) (c : Int) (c1 : Int) (c2 : List (Int × Int)) (t : List Int) (pairs : List Int) (piece : Int) (i : Int) : L45_8 k (j + 1) l_1 t2 t2_1 c c1 c2 t pairs piece i = l45_8 k (L45_8 k j) l_1 t2 t2_1 c c1 c2 t pairs piece i := iter_succ _ _ _ _
noncomputable def S45 (k : Nat) (l_ : List Y4_0) : Option Y4_7 :=
 (S60 k l_).bind fun q0 =>
 (bif !q0.1.1 then
  some (((0, 0, []), false, ()), ())
 else
  (S61 k l_).bind fun q1 =>
  (S62 k l_).bind fun q2 =>
  L45_8 k k l_ 0 0 0 0 ([] : List (Int × Int)) q1.1.1 q2.1.1 0 0)
noncomputable def E45 : Env := tab.env (lk [(60, F60), (61, F61), (62, F62)]) (hintL [(16, 2)])
theorem E45_ok : EnvOK Try.prog E45 := envOK_of tabOK _ _ (allFn_lk (l := [(60, F60), (61, F61), (62, F62)]) ⟨ok60, ok61, ok62, trivial⟩)
noncomputable def B45 (k : Nat) : Tbl (RD R45 × MD P45) := (.loop 8 c45_L8 (b45_8 k) (fun g => (fun (g8 : Y4_3) => (.loop 16 c45_L16 (b45_16 k g8) (fun g => .nil) (.join 13 c45_J13 (fun d => j45_13 k g8 d.2.1 d.2.2.1.1 d.2.2.1.2.1 d.2.2.2.1.1 d.2.2.2.1.2.1 d.2.2.2.1.2.2.1 d.2.2.2.2.1 d.2.2.2.2.2.1 d.2.2.2.2.2.2.1 d.2.2.2.2.2.2.2.1) .nil))) (fun l_1 t2 t2_1 c c1 c2 t pairs piece i => g ((), l_1, (t2, t2_1, (), ()), (c, c1, c2, ()), t, pairs, piece, i, ()))) .nil)
noncomputable def F45 : Fn := ⟨P45, R45, fun k x => S45 k x.1⟩
theorem ok45 : FnOK Try.prog 45 F45 := evalF_ok (E := E45) (T := B45) E45_ok mix Try.func45 rfl (by kernel_rfl) (by kernel_rfl) (fun k => by kernel_rfl) (fun k x => by kernel_rfl)
noncomputable abbrev P53 : List PT := [.val ⟨false, Y4_2, false⟩]
noncomputable abbrev R53 : List RT := [.val ⟨false, .bool, true⟩]
noncomputable abbrev c53_L2 : Cut := ⟨[0, 3], [.cell Y4_2, .cell (.int .i64)], [], 16⟩
noncomputable def l53_2 (k : Nat) (g2 : (List Y4_0) → Int → Option Y4_5) (l_1 : List Y4_0) (i : Int) : Option Y4_5 :=
 (bif decide (i < (l_1.length : Int)) then
  ix l_1 i <|
  (bif (rd l_1 i (0, 0, 0, 0)).1 == 9 then
   some ((true, ()), ())
  else
   g2 l_1 (IntKind.i64.wrap (i + 1)))
 else
  some ((false, ()), ()))
noncomputable def b53_2 (k : Nat) (g : ((Unit) × (List Y4_0) × Int × Unit) → Option Y4_5) (d : (Unit) × (List Y4_0) × Int × Unit) : Option Y4_5 := l53_2 k (fun l_1 i => g ((), l_1, i, ())) d.2.1 d.2.2.1
noncomputable def L53_2 (k : Nat) (j : Nat) (l_1 : List Y4_0) (i : Int) : Option Y4_5 := iter (R := (Bool × Unit) × Unit) c53_L2 (b53_2 k) j ((), l_1, i, ())
theorem L53_2_s (k : Nat) (j : Nat) (l_1 : List Y4_0) (i : Int) : L53_2 k (j + 1) l_1 i = l53_2 k (L53_2 k j) l_1 i := iter_succ _ _ _ _
noncomputable def S53 (k : Nat) (l_ : List Y4_0) : Option Y4_5 :=
 L53_2 k k l_ 0
noncomputable def E53 : Env := tab.env (lk []) (hintL [])
theorem E53_ok : EnvOK Try.prog E53 := envOK_of tabOK _ _ (fun f F h => by cases h)
noncomputable def B53 (k : Nat) : Tbl (RD R53 × MD P53) := (.loop 2 c53_L2 (b53_2 k) (fun g => .nil) .nil)
noncomputable def F53 : Fn := ⟨P53, R53, fun k x => S53 k x.1⟩
theorem ok53 : FnOK Try.prog 53 F53 := evalF_ok (E := E53) (T := B53) E53_ok mix Try.func53 rfl (by kernel_rfl) (by kernel_rfl) (fun k => by kernel_rfl) (fun k x => by kernel_rfl)
end Go.Proofs.Ytinopkpnlibopaa.Ab
