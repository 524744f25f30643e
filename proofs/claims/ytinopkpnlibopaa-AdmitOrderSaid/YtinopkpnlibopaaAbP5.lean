import Derived.Test.YtinopkpnlibopaaAbP4
/- Contracts, printed by this session's own program gen.py. -/
set_option linter.unusedVariables false
set_option linter.unusedSimpArgs false
set_option maxRecDepth 100000
namespace Go.Proofs.Ytinopkpnlibopaa.Ab
open Go.RowKit
abbrev Y5_0 : Type := Int × Int × Int × (List (Int × Int × Int × Int)) × (List (Int × Int × Int × Int)) × List (Int × Int × Int × Int)
abbrev Y5_1 : Ty := .pair (.int .i64) (.pair (.int .i64) (.pair (.int .i64) (.pair (.sl 60 (.pair (.int .i64) (.pair (.int .i64) (.pair (.int .i64) (.int .i64))))) (.pair (.sl 60 (.pair (.int .i64) (.pair (.int .i64) (.pair (.int .i64) (.int .i64))))) (.sl 60 (.pair (.int .i64) (.pair (.int .i64) (.pair (.int .i64) (.int .i64)))))))))
abbrev Y5_2 : Type := Int × Int × Int × Int
abbrev Y5_3 : Type := (Bool × Unit) × Unit
abbrev Y5_4 : Ty := .pair (.int .i64) (.pair (.int .i64) (.pair (.int .i64) (.int .i64)))
abbrev Y5_5 : Type := ((List Y5_0) × Unit) × Unit
abbrev Y5_6 : Type := List (PN Int 5)
abbrev Y5_7 : Type := Int × Int × Int × (List Y5_2) × (List Y5_2) × List Y5_2
noncomputable abbrev P34 : List PT := [.val ⟨true, Y5_1, false⟩]
noncomputable abbrev R34 : List RT := [.val ⟨false, (.int .i64), true⟩]
noncomputable def S34 (k : Nat) (t : Y5_7) : Option ((Int × Unit) × Unit) :=
 (S45 k t.2.2.2.1).bind fun q0 =>
 (S45 k t.2.2.2.2.1).bind fun q1 =>
 (S45 k t.2.2.2.2.2).bind fun q2 =>
 (bif decide (t.1 < 0) then
  some ((1, ()), ())
 else
  (bif decide (t.1 > 63) then
   some ((1, ()), ())
  else
   (bif decide (t.2.1 < 1) then
    some ((9, ()), ())
   else
    (bif decide (t.2.1 > 16384) then
     some ((9, ()), ())
    else
     (bif decide (t.2.2.1 < 1) then
      some ((9, ()), ())
     else
      (bif decide (t.2.2.1 > t.2.1) then
       some ((9, ()), ())
      else
       (bif !q0.1.2.1 then
        some ((2, ()), ())
       else
        (bif decide ((t.2.2.2.2.1.length : Int) > 0) then
         (bif !q1.1.2.1 then
          some ((2, ()), ())
         else
          (bif decide ((t.2.2.2.2.2.length : Int) > 0) then
           (bif !q2.1.2.1 then
            some ((2, ()), ())
           else
            (S53 k t.2.2.2.2.2).bind fun q3 =>
            (bif q3.1.1 then
             some ((2, ()), ())
            else
             (bif decide (q0.1.1.1 > t.2.2.1) then
              some ((10, ()), ())
             else
              (bif decide ((t.2.2.2.2.1.length : Int) > 0) then
               (bif decide (q1.1.1.1 > q0.1.1.1) then
                some ((12, ()), ())
               else
                some ((0, ()), ()))
              else
               some ((0, ()), ())))))
          else
           (bif decide (q0.1.1.1 > t.2.2.1) then
            some ((10, ()), ())
           else
            (bif decide ((t.2.2.2.2.1.length : Int) > 0) then
             (bif decide (q1.1.1.1 > q0.1.1.1) then
              some ((12, ()), ())
             else
              some ((0, ()), ()))
            else
             some ((0, ()), ())))))
        else
         (bif decide ((t.2.2.2.2.2.length : Int) > 0) then
          (bif !q2.1.2.1 then
           some ((2, ()), ())
          else
           (S53 k t.2.2.2.2.2).bind fun q4 =>
           (bif q4.1.1 then
            some ((2, ()), ())
           else
            (bif decide (q0.1.1.1 > t.2.2.1) then
             some ((10, ()), ())
            else
             (bif decide ((t.2.2.2.2.1.length : Int) > 0) then
              (bif decide (q1.1.1.1 > q0.1.1.1) then
               some ((12, ()), ())
              else
               some ((0, ()), ()))
             else
              some ((0, ()), ())))))
         else
          (bif decide (q0.1.1.1 > t.2.2.1) then
           some ((10, ()), ())
          else
           (bif decide ((t.2.2.2.2.1.length : Int) > 0) then
            (bif decide (q1.1.1.1 > q0.1.1.1) then
             some ((12, ()), ())
            else
             some ((0, ()), ()))
           else
            some ((0, ()), ()))))))))))))
noncomputable def E34 : Env := tab.env (lk [(45, F45), (53, F53)]) (hintL [])
theorem E34_ok : EnvOK Try.prog E34 := envOK_of tabOK _ _ (allFn_lk (l := [(45, F45), (53, F53)]) ⟨ok45, ok53, trivial⟩)
noncomputable def B34 (k : Nat) : Tbl (RD R34 × MD P34) := .nil
noncomputable def F34 : Fn := ⟨P34, R34, fun k x => S34 k x.1⟩
theorem ok34 : FnOK Try.prog 34 F34 := evalF_ok (E := E34) (T := B34) E34_ok mix Try.func34 rfl (by kernel_rfl) (by kernel_rfl) (fun k => by kernel_rfl) (fun k x => by kernel_rfl)
noncomputable abbrev P15 : List PT := [.val ⟨false, (.sl 5 (.int .u8)), false⟩, .val ⟨false, (.int .i64), false⟩]
noncomputable abbrev R15 : List RT := [.val ⟨false, (.sl 36 Y5_1), true⟩]
noncomputable abbrev c15_L5 : Cut := ⟨[5, 6, 7, 8], [.box 79 [.cell (.sl 5 (.int .u8)), .cell (.int .i64)], .own 36 Y5_1, .cell (.int .i64), .cell (.int .i64)], [], 39⟩
noncomputable def l15_5 (k : Nat) (g5 : (List Int) → Int → (List Y5_0) → Int → Int → Option Y5_5) (p : List Int) (p1 : Int) (l_ : List Y5_0) (locks : Int) (i : Int) : Option Y5_5 :=
 (bif decide (i > 0) then
  (S33 k p p1 3).bind fun q3 =>
  (S25 k q3.2.1.1 q3.2.1.2.1 (IntKind.i64.wrap ((IntKind.i64.wrap (3 * (l_.length : Int))) + q3.1.1)) locks).bind fun q4 =>
  (S34 k q4.1.1).bind fun q5 =>
  (bif q5.1.1 == 0 then
   ap l_ ([q4.1.1] : List Y5_0) 96 fun r6 =>
   g5 q4.2.1.1 q4.2.1.2.1 r6 locks (IntKind.i64.wrap (i - 1))
  else
   g5 q4.2.1.1 q4.2.1.2.1 l_ locks (IntKind.i64.wrap (i - 1)))
 else
  some ((l_, ()), ()))
noncomputable def b15_5 (k : Nat) (g : ((Unit) × ((List Int) × Int × Unit) × (List Y5_0) × Int × Int × Unit) → Option Y5_5) (d : (Unit) × ((List Int) × Int × Unit) × (List Y5_0) × Int × Int × Unit) : Option Y5_5 := l15_5 k (fun p p1 l_ locks i => g ((), (p, p1, ()), l_, locks, i, ())) d.2.1.1 d.2.1.2.1 d.2.2.1 d.2.2.2.1 d.2.2.2.2.1
noncomputable def L15_5 (k : Nat) (j : Nat) (p : List Int) (p1 : Int) (l_ : List Y5_0) (locks : Int) (i : Int) : Option Y5_5 := iter (R := ((List Y5_0) × Unit) × Unit) c15_L5 (b15_5 k) j ((), (p, p1, ()), l_, locks, i, ())
theorem L15_5_s (k : Nat) (j : Nat) (p : List Int) (p1 : Int) (l_ : List Y5_0) (locks : Int) (i : Int) : L15_5 k (j + 1) p p1 l_ locks i = l15_5 k (L15_5 k j) p p1 l_ locks i := iter_succ _ _ _ _
noncomputable def S15 (k : Nat) (picks : List Int) (most : Int) : Option Y5_5 :=
 (S24 k picks).bind fun q0 =>
 (S33 k q0.1.1.1 q0.1.1.2.1 4).bind fun q1 =>
 (S33 k q1.2.1.1 q1.2.1.2.1 most).bind fun q2 =>
 L15_5 k k q2.2.1.1 q2.2.1.2.1 ([] : List Y5_0) q1.1.1 (IntKind.i64.wrap (q2.1.1 + 1))
noncomputable def E15 : Env := tab.env (lk [(24, F24), (25, F25), (33, F33), (34, F34)]) (hintL [(6, 2)])
theorem E15_ok : EnvOK Try.prog E15 := envOK_of tabOK _ _ (allFn_lk (l := [(24, F24), (25, F25), (33, F33), (34, F34)]) ⟨ok24, ok25, ok33, ok34, trivial⟩)
noncomputable def B15 (k : Nat) : Tbl (RD R15 × MD P15) := (.loop 5 c15_L5 (b15_5 k) (fun g => .nil) .nil)
noncomputable def F15 : Fn := ⟨P15, R15, fun k x => S15 k x.1 x.2.1⟩
theorem ok15 : FnOK Try.prog 15 F15 := evalF_ok (E := E15) (T := B15) E15_ok mix Try.func15 rfl (by kernel_rfl) (by kernel_rfl) (fun k => by kernel_rfl) (fun k x => by kernel_rfl)
noncomputable abbrev P52 : List PT := [.val ⟨false, (.sl 60 Y5_4), false⟩, .val ⟨false, (.sl 60 Y5_4), false⟩]
noncomputable abbrev R52 : List RT := [.val ⟨false, .bool, true⟩]
noncomputable abbrev c52_L4 : Cut := ⟨[0, 1, 5], [.cell (.sl 60 Y5_4), .cell (.sl 60 Y5_4), .cell (.int .i64)], [], 26⟩
noncomputable def l52_4 (k : Nat) (g4 : (List Y5_2) → (List Y5_2) → Int → Option Y5_3) (a1 : List Y5_2) (b1 : List Y5_2) (i : Int) : Option Y5_3 :=
 (bif decide (i < (a1.length : Int)) then
  ix a1 i <|
  ix b1 i <|
  (bif !(beqD Y5_4 (rd a1 i (0, 0, 0, 0)) (rd b1 i (0, 0, 0, 0))) then
   some ((false, ()), ())
  else
   g4 a1 b1 (IntKind.i64.wrap (i + 1)))
 else
  some ((true, ()), ()))
noncomputable def b52_4 (k : Nat) (g : ((Unit) × (List Y5_2) × (List Y5_2) × Int × Unit) → Option Y5_3) (d : (Unit) × (List Y5_2) × (List Y5_2) × Int × Unit) : Option Y5_3 := l52_4 k (fun a1 b1 i => g ((), a1, b1, i, ())) d.2.1 d.2.2.1 d.2.2.2.1
noncomputable def L52_4 (k : Nat) (j : Nat) (a1 : List Y5_2) (b1 : List Y5_2) (i : Int) : Option Y5_3 := iter (R := (Bool × Unit) × Unit) c52_L4 (b52_4 k) j ((), a1, b1, i, ())
theorem L52_4_s (k : Nat) (j : Nat) (a1 : List Y5_2) (b1 : List Y5_2) (i : Int) : L52_4 k (j + 1) a1 b1 i = l52_4 k (L52_4 k j) a1 b1 i := iter_succ _ _ _ _
noncomputable def S52 (k : Nat) (a : List Y5_2) (b : List Y5_2) : Option Y5_3 :=
 (bif (a.length : Int) != (b.length : Int) then
  some ((false, ()), ())
 else
  L52_4 k k a b 0)
noncomputable def E52 : Env := tab.env (lk []) (hintL [])
theorem E52_ok : EnvOK Try.prog E52 := envOK_of tabOK _ _ (fun f F h => by cases h)
noncomputable def B52 (k : Nat) : Tbl (RD R52 × MD P52) := (.loop 4 c52_L4 (b52_4 k) (fun g => .nil) .nil)
noncomputable def F52 : Fn := ⟨P52, R52, fun k x => S52 k x.1 x.2.1⟩
theorem ok52 : FnOK Try.prog 52 F52 := evalF_ok (E := E52) (T := B52) E52_ok mix Try.func52 rfl (by kernel_rfl) (by kernel_rfl) (fun k => by kernel_rfl) (fun k x => by kernel_rfl)
noncomputable abbrev P32 : List PT := [.val ⟨true, Y5_1, false⟩, .val ⟨true, Y5_1, false⟩]
noncomputable abbrev R32 : List RT := [.val ⟨false, .bool, true⟩]
noncomputable def S32 (k : Nat) (a : Y5_7) (b : Y5_7) : Option Y5_3 :=
 (bif a.1 == b.1 then
  (bif a.2.1 == b.2.1 then
   (bif a.2.2.1 == b.2.2.1 then
    (S52 k a.2.2.2.1 b.2.2.2.1).bind fun q0 =>
    (bif q0.1.1 then
     (S52 k a.2.2.2.2.1 b.2.2.2.2.1).bind fun q1 =>
     (bif q1.1.1 then
      (S52 k a.2.2.2.2.2 b.2.2.2.2.2).bind fun q2 =>
      some ((q2.1.1, ()), ())
     else
      some ((false, ()), ()))
    else
     some ((false, ()), ()))
   else
    some ((false, ()), ()))
  else
   some ((false, ()), ()))
 else
  some ((false, ()), ()))
noncomputable def E32 : Env := tab.env (lk [(52, F52)]) (hintL [])
theorem E32_ok : EnvOK Try.prog E32 := envOK_of tabOK _ _ (allFn_lk (l := [(52, F52)]) ⟨ok52, trivial⟩)
noncomputable def B32 (k : Nat) : Tbl (RD R32 × MD P32) := .nil
noncomputable def F32 : Fn := ⟨P32, R32, fun k x => S32 k x.1 x.2.1⟩
theorem ok32 : FnOK Try.prog 32 F32 := evalF_ok (E := E32) (T := B32) E32_ok mix Try.func32 rfl (by kernel_rfl) (by kernel_rfl) (fun k => by kernel_rfl) (fun k x => by kernel_rfl)
noncomputable abbrev P31 : List PT := [.val ⟨false, (.sl 36 Y5_1), false⟩, .val ⟨false, (.sl 36 Y5_1), false⟩]
noncomputable abbrev R31 : List RT := [.val ⟨false, .bool, true⟩]
noncomputable abbrev c31_L4 : Cut := ⟨[0, 1, 5], [.cell (.sl 36 Y5_1), .cell (.sl 36 Y5_1), .cell (.int .i64)], [], 27⟩
noncomputable def l31_4 (k : Nat) (g4 : (List Y5_0) → (List Y5_0) → Int → Option Y5_3) (a1 : List Y5_0) (b1 : List Y5_0) (i : Int) : Option Y5_3 :=
 (bif decide (i < (a1.length : Int)) then
  ix a1 i <|
  ix b1 i <|
  (S32 k (rd a1 i (0, 0, 0, [], [], [])) (rd b1 i (0, 0, 0, [], [], []))).bind fun q0 =>
  (bif !q0.1.1 then
   some ((false, ()), ())
  else
   g4 a1 b1 (IntKind.i64.wrap (i + 1)))
 else
  some ((true, ()), ()))
noncomputable def b31_4 (k : Nat) (g : ((Unit) × (List Y5_0) × (List Y5_0) × Int × Unit) → Option Y5_3) (d : (Unit) × (List Y5_0) × (List Y5_0) × Int × Unit) : Option Y5_3 := l31_4 k (fun a1 b1 i => g ((), a1, b1, i, ())) d.2.1 d.2.2.1 d.2.2.2.1
noncomputable def L31_4 (k : Nat) (j : Nat) (a1 : List Y5_0) (b1 : List Y5_0) (i : Int) : Option Y5_3 := iter (R := (Bool × Unit) × Unit) c31_L4 (b31_4 k) j ((), a1, b1, i, ())
theorem L31_4_s (k : Nat) (j : Nat) (a1 : List Y5_0) (b1 : List Y5_0) (i : Int) : L31_4 k (j + 1) a1 b1 i = l31_4 k (L31_4 k j) a1 b1 i := iter_succ _ _ _ _
noncomputable def S31 (k : Nat) (a : List Y5_0) (b : List Y5_0) : Option Y5_3 :=
 (bif (a.length : Int) != (b.length : Int) then
  some ((false, ()), ())
 else
  L31_4 k k a b 0)
noncomputable def E31 : Env := tab.env (lk [(32, F32)]) (hintL [])
theorem E31_ok : EnvOK Try.prog E31 := envOK_of tabOK _ _ (allFn_lk (l := [(32, F32)]) ⟨ok32, trivial⟩)
noncomputable def B31 (k : Nat) : Tbl (RD R31 × MD P31) := (.loop 4 c31_L4 (b31_4 k) (fun g => .nil) .nil)
noncomputable def F31 : Fn := ⟨P31, R31, fun k x => S31 k x.1 x.2.1⟩
theorem ok31 : FnOK Try.prog 31 F31 := evalF_ok (E := E31) (T := B31) E31_ok mix Try.func31 rfl (by kernel_rfl) (by kernel_rfl) (fun k => by kernel_rfl) (fun k x => by kernel_rfl)
noncomputable abbrev P28 : List PT := [.val ⟨false, (.sl 62 (arrT 5 (.int .i64))), false⟩, .val ⟨false, (.sl 62 (arrT 5 (.int .i64))), false⟩]
noncomputable abbrev R28 : List RT := [.val ⟨false, .bool, true⟩]
noncomputable abbrev c28_L4 : Cut := ⟨[0, 1, 5], [.cell (.sl 62 (arrT 5 (.int .i64))), .cell (.sl 62 (arrT 5 (.int .i64))), .cell (.int .i64)], [], 26⟩
noncomputable def l28_4 (k : Nat) (g4 : Y5_6 → Y5_6 → Int → Option Y5_3) (a1 : List (PN Int 5)) (b1 : List (PN Int 5)) (i : Int) : Option Y5_3 :=
 (bif decide (i < (a1.length : Int)) then
  ix a1 i <|
  ix b1 i <|
  (bif !(beqD (arrT 5 (.int .i64)) (rd a1 i (prep (α := Int) 5 0)) (rd b1 i (prep (α := Int) 5 0))) then
   some ((false, ()), ())
  else
   g4 a1 b1 (IntKind.i64.wrap (i + 1)))
 else
  some ((true, ()), ()))
noncomputable def b28_4 (k : Nat) (g : ((Unit) × Y5_6 × Y5_6 × Int × Unit) → Option Y5_3) (d : (Unit) × Y5_6 × Y5_6 × Int × Unit) : Option Y5_3 := l28_4 k (fun a1 b1 i => g ((), a1, b1, i, ())) d.2.1 d.2.2.1 d.2.2.2.1
noncomputable def L28_4 (k : Nat) (j : Nat) (a1 : List (PN Int 5)) (b1 : List (PN Int 5)) (i : Int) : Option Y5_3 := iter (R := (Bool × Unit) × Unit) c28_L4 (b28_4 k) j ((), a1, b1, i, ())
theorem L28_4_s (k : Nat) (j : Nat) (a1 : List (PN Int 5)) (b1 : List (PN Int 5)) (i : Int) : L28_4 k (j + 1) a1 b1 i = l28_4 k (L28_4 k j) a1 b1 i := iter_succ _ _ _ _
noncomputable def S28 (k : Nat) (a : List (PN Int 5)) (b : List (PN Int 5)) : Option Y5_3 :=
 (bif (a.length : Int) != (b.length : Int) then
  some ((false, ()), ())
 else
  L28_4 k k a b 0)
noncomputable def E28 : Env := tab.env (lk []) (hintL [])
theorem E28_ok : EnvOK Try.prog E28 := envOK_of tabOK _ _ (fun f F h => by cases h)
noncomputable def B28 (k : Nat) : Tbl (RD R28 × MD P28) := (.loop 4 c28_L4 (b28_4 k) (fun g => .nil) .nil)
noncomputable def F28 : Fn := ⟨P28, R28, fun k x => S28 k x.1 x.2.1⟩
theorem ok28 : FnOK Try.prog 28 F28 := evalF_ok (E := E28) (T := B28) E28_ok mix Try.func28 rfl (by kernel_rfl) (by kernel_rfl) (fun k => by kernel_rfl) (fun k x => by kernel_rfl)
noncomputable abbrev P10 : List PT := [.val ⟨false, (.sl 5 (.int .u8)), false⟩, .val ⟨false, (.int .u8), false⟩]
noncomputable abbrev R10 : List RT := [.val ⟨false, .bool, true⟩]
noncomputable abbrev c10_L12 : Cut := ⟨[1, 5, 6, 8, 9, 10], [.cell (.int .u8), .own 36 Y5_1, .own 62 (arrT 5 (.int .i64)), .own 36 Y5_1, .own 62 (arrT 5 (.int .i64)), .cell (.int .i64)], [], 67⟩
noncomputable def l10_12 (k : Nat) (g12 : Int → (List Y5_0) → Y5_6 → (List Y5_0) → Y5_6 → Int → Option Y5_3) (turn1 : Int) (l_ : List Y5_0) (want : List (PN Int 5)) (row : List Y5_0) (got : List (PN Int 5)) (i : Int) : Option Y5_3 :=
 (bif decide (i < (l_.length : Int)) then
  nz (l_.length : Int) <|
  ix l_ (Int.tmod (IntKind.i64.wrap (i + (IntKind.i64.wrap turn1))) (l_.length : Int)) <|
  (S29 k row (rd l_ (Int.tmod (IntKind.i64.wrap (i + (IntKind.i64.wrap turn1))) (l_.length : Int)) (0, 0, 0, [], [], [])) 1000).bind fun q3 =>
  (bif q3.1.2.2.1 != 0 then
   some ((false, ()), ())
  else
   g12 turn1 l_ want q3.1.1 q3.1.2.1 (IntKind.i64.wrap (i + 1)))
 else
  (S31 k row l_).bind fun q4 =>
  (bif q4.1.1 then
   (S28 k got want).bind fun q5 =>
   some ((q5.1.1, ()), ())
  else
   some ((false, ()), ())))
noncomputable def b10_12 (k : Nat) (g : ((Unit) × Int × (List Y5_0) × Y5_6 × (List Y5_0) × Y5_6 × Int × Unit) → Option Y5_3) (d : (Unit) × Int × (List Y5_0) × Y5_6 × (List Y5_0) × Y5_6 × Int × Unit) : Option Y5_3 := l10_12 k (fun turn1 l_ want row got i => g ((), turn1, l_, want, row, got, i, ())) d.2.1 d.2.2.1 d.2.2.2.1 d.2.2.2.2.1 d.2.2.2.2.2.1 d.2.2.2.2.2.2.1
noncomputable def L10_12 (k : Nat) (j : Nat) (turn1 : Int) (l_ : List Y5_0) (want : List (PN Int 5)) (row : List Y5_0) (got : List (PN Int 5)) (i : Int) : Option Y5_3 := iter (R := (Bool × Unit) × Unit) c10_L12 (b10_12 k) j ((), turn1, l_, want, row, got, i, ())
theorem L10_12_s (k : Nat) (j : Nat) (turn1 : Int) (l_ : List Y5_0) (want : List (PN Int 5)) (row : List Y5_0) (got : List (PN Int 5)) (i : Int) : L10_12 k (j + 1) turn1 l_ want row got i = l10_12 k (L10_12 k j) turn1 l_ want row got i := iter_succ _ _ _ _
noncomputable def S10 (k : Nat) (picks : List Int) (turn : Int) : Option Y5_3 :=
 (S23 k).bind fun q0 =>
 (bif !q0.1.1 then
  some ((false, ()), ())
 else
  (bif decide ((picks.length : Int) > 250) then
   some ((true, ()), ())
  else
   (S15 k picks 5).bind fun q1 =>
   (S26 k q1.1.1 1000).bind fun q2 =>
   (bif q2.1.2.1 != 0 then
    some ((true, ()), ())
   else
    (bif (q1.1.1.length : Int) == 0 then
     some ((true, ()), ())
    else
     L10_12 k k turn q1.1.1 q2.1.1 ([] : List Y5_0) ([] : List (PN Int 5)) 0))))
noncomputable def E10 : Env := tab.env (lk [(15, F15), (23, F23), (26, F26), (28, F28), (29, F29), (31, F31)]) (hintL [(8, 2), (9, 2)])
theorem E10_ok : EnvOK Try.prog E10 := envOK_of tabOK _ _ (allFn_lk (l := [(15, F15), (23, F23), (26, F26), (28, F28), (29, F29), (31, F31)]) ⟨ok15, ok23, ok26, ok28, ok29, ok31, trivial⟩)
noncomputable def B10 (k : Nat) : Tbl (RD R10 × MD P10) := (.loop 12 c10_L12 (b10_12 k) (fun g => .nil) .nil)
noncomputable def F10 : Fn := ⟨P10, R10, fun k x => S10 k x.1 x.2.1⟩
theorem ok10 : FnOK Try.prog 10 F10 := evalF_ok (E := E10) (T := B10) E10_ok mix Try.func10 rfl (by kernel_rfl) (by kernel_rfl) (fun k => by kernel_rfl) (fun k x => by kernel_rfl)
end Go.Proofs.Ytinopkpnlibopaa.Ab
