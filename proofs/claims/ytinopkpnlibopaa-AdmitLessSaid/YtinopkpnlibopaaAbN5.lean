import Derived.Test.YtinopkpnlibopaaAbN4
/- Contracts, printed by this session's own program gen.py. -/
set_option linter.unusedVariables false
set_option linter.unusedSimpArgs false
set_option maxRecDepth 100000
namespace Go.Proofs.Ytinopkpnlibopaa.Ab
open Go.RowKit
abbrev Y5_0 : Type := Int × Int × Int × (List (Int × Int × Int × Int)) × (List (Int × Int × Int × Int)) × List (Int × Int × Int × Int)
abbrev Y5_1 : Ty := .pair (.int .i64) (.pair (.int .i64) (.pair (.int .i64) (.pair (.sl 60 (.pair (.int .i64) (.pair (.int .i64) (.pair (.int .i64) (.int .i64))))) (.pair (.sl 60 (.pair (.int .i64) (.pair (.int .i64) (.pair (.int .i64) (.int .i64))))) (.sl 60 (.pair (.int .i64) (.pair (.int .i64) (.pair (.int .i64) (.int .i64)))))))))
abbrev Y5_2 : Type := (Bool × Unit) × Unit
abbrev Y5_3 : Type := ((List Y5_0) × Unit) × Unit
abbrev Y5_4 : Type := List (PN Int 5)
noncomputable abbrev P34 : List PT := [.val ⟨true, Y5_1, false⟩]
noncomputable abbrev R34 : List RT := [.val ⟨false, (.int .i64), true⟩]
noncomputable def S34 (k : Nat) (t : Int × Int × Int × (List (Int × Int × Int × Int)) × (List (Int × Int × Int × Int)) × List (Int × Int × Int × Int)) : Option ((Int × Unit) × Unit) :=
 (S45 k t.2.2.2.1).bind fun q0 =>
 (S45 k t.2.2.2.2.1).bind fun q1 =>
 (S45 k t.2.2.2.2.2).bind fun q2 =>
 (bif decide (t.1 < 0) then
  some ((1, ()), ())
 else
  (bif decide (t.1 > 63) then
   some ((1, ()), ())
  else
   (bif decide (t.2.1 < 1) then
    some ((9, ()), ())
   else
    (bif decide (t.2.1 > 16384) then
     some ((9, ()), ())
    else
     (bif decide (t.2.2.1 < 1) then
      some ((9, ()), ())
     else
      (bif decide (t.2.2.1 > t.2.1) then
       some ((9, ()), ())
      else
       (bif !q0.1.2.1 then
        some ((2, ()), ())
       else
        (bif decide ((t.2.2.2.2.1.length : Int) > 0) then
         (bif !q1.1.2.1 then
          some ((2, ()), ())
         else
          (bif decide ((t.2.2.2.2.2.length : Int) > 0) then
           (bif !q2.1.2.1 then
            some ((2, ()), ())
           else
            (S53 k t.2.2.2.2.2).bind fun q3 =>
            (bif q3.1.1 then
             some ((2, ()), ())
            else
             (bif decide (q0.1.1.1 > t.2.2.1) then
              some ((10, ()), ())
             else
              (bif decide ((t.2.2.2.2.1.length : Int) > 0) then
               (bif decide (q1.1.1.1 > q0.1.1.1) then
                some ((12, ()), ())
               else
                some ((0, ()), ()))
              else
               some ((0, ()), ())))))
          else
           (bif decide (q0.1.1.1 > t.2.2.1) then
            some ((10, ()), ())
           else
            (bif decide ((t.2.2.2.2.1.length : Int) > 0) then
             (bif decide (q1.1.1.1 > q0.1.1.1) then
              some ((12, ()), ())
             else
              some ((0, ()), ()))
            else
             some ((0, ()), ())))))
        else
         (bif decide ((t.2.2.2.2.2.length : Int) > 0) then
          (bif !q2.1.2.1 then
           some ((2, ()), ())
          else
           (S53 k t.2.2.2.2.2).bind fun q4 =>
           (bif q4.1.1 then
            some ((2, ()), ())
           else
            (bif decide (q0.1.1.1 > t.2.2.1) then
             some ((10, ()), ())
            else
             (bif decide ((t.2.2.2.2.1.length : Int) > 0) then
              (bif decide (q1.1.1.1 > q0.1.1.1) then
               some ((12, ()), ())
              else
               some ((0, ()), ()))
             else
              some ((0, ()), ())))))
         else
          (bif decide (q0.1.1.1 > t.2.2.1) then
           some ((10, ()), ())
          else
           (bif decide ((t.2.2.2.2.1.length : Int) > 0) then
            (bif decide (q1.1.1.1 > q0.1.1.1) then
             some ((12, ()), ())
            else
             some ((0, ()), ()))
           else
            some ((0, ()), ()))))))))))))
noncomputable def E34 : Env := tab.env (lk [(45, F45), (53, F53)]) (hintL [])
theorem E34_ok : EnvOK Try.prog E34 := envOK_of tabOK _ _ (allFn_lk (l := [(45, F45), (53, F53)]) ⟨ok45, ok53, trivial⟩)
noncomputable def B34 (k : Nat) : Tbl (RD R34 × MD P34) := .nil
noncomputable def F34 : Fn := ⟨P34, R34, fun k x => S34 k x.1⟩
theorem ok34 : FnOK Try.prog 34 F34 := evalF_ok (E := E34) (T := B34) E34_ok mix Try.func34 rfl (by kernel_rfl) (by kernel_rfl) (fun k => by kernel_rfl) (fun k x => by kernel_rfl)
noncomputable abbrev P15 : List PT := [.val ⟨false, (.sl 5 (.int .u8)), false⟩, .val ⟨false, (.int .i64), false⟩]
noncomputable abbrev R15 : List RT := [.val ⟨false, (.sl 36 Y5_1), true⟩]
noncomputable abbrev c15_L5 : Cut := ⟨[5, 6, 7, 8], [.box 79 [.cell (.sl 5 (.int .u8)), .cell (.int .i64)], .own 36 Y5_1, .cell (.int .i64), .cell (.int .i64)], [], 39⟩
noncomputable def l15_5 (k : Nat) (g5 : (List Int) → Int → (List Y5_0) → Int → Int → Option Y5_3) (p : List Int) (p1 : Int) (l_ : List Y5_0) (locks : Int) (i : Int) : Option Y5_3 :=
 (bif decide (i > 0) then
  (S33 k p p1 3).bind fun q3 =>
  (S25 k q3.2.1.1 q3.2.1.2.1 (IntKind.i64.wrap ((IntKind.i64.wrap (3 * (l_.length : Int))) + q3.1.1)) locks).bind fun q4 =>
  (S34 k q4.1.1).bind fun q5 =>
  (bif q5.1.1 == 0 then
   ap l_ ([q4.1.1] : List Y5_0) 96 fun r6 =>
   g5 q4.2.1.1 q4.2.1.2.1 r6 locks (IntKind.i64.wrap (i - 1))
  else
   g5 q4.2.1.1 q4.2.1.2.1 l_ locks (IntKind.i64.wrap (i - 1)))
 else
  some ((l_, ()), ()))
noncomputable def b15_5 (k : Nat) (g : ((Unit) × ((List Int) × Int × Unit) × (List Y5_0) × Int × Int × Unit) → Option Y5_3) (d : (Unit) × ((List Int) × Int × Unit) × (List Y5_0) × Int × Int × Unit) : Option Y5_3 := l15_5 k (fun p p1 l_ locks i => g ((), (p, p1, ()), l_, locks, i, ())) d.2.1.1 d.2.1.2.1 d.2.2.1 d.2.2.2.1 d.2.2.2.2.1
noncomputable def L15_5 (k : Nat) (j : Nat) (p : List Int) (p1 : Int) (l_ : List Y5_0) (locks : Int) (i : Int) : Option Y5_3 := iter (R := ((List Y5_0) × Unit) × Unit) c15_L5 (b15_5 k) j ((), (p, p1, ()), l_, locks, i, ())
theorem L15_5_s (k : Nat) (j : Nat) (p : List Int) (p1 : Int) (l_ : List Y5_0) (locks : Int) (i : Int) : L15_5 k (j + 1) p p1 l_ locks i = l15_5 k (L15_5 k j) p p1 l_ locks i := iter_succ _ _ _ _
noncomputable def S15 (k : Nat) (picks : List Int) (most : Int) : Option Y5_3 :=
 (S24 k picks).bind fun q0 =>
 (S33 k q0.1.1.1 q0.1.1.2.1 4).bind fun q1 =>
 (S33 k q1.2.1.1 q1.2.1.2.1 most).bind fun q2 =>
 L15_5 k k q2.2.1.1 q2.2.1.2.1 ([] : List Y5_0) q1.1.1 (IntKind.i64.wrap (q2.1.1 + 1))
noncomputable def E15 : Env := tab.env (lk [(24, F24), (25, F25), (33, F33), (34, F34)]) (hintL [(6, 2)])
theorem E15_ok : EnvOK Try.prog E15 := envOK_of tabOK _ _ (allFn_lk (l := [(24, F24), (25, F25), (33, F33), (34, F34)]) ⟨ok24, ok25, ok33, ok34, trivial⟩)
noncomputable def B15 (k : Nat) : Tbl (RD R15 × MD P15) := (.loop 5 c15_L5 (b15_5 k) (fun g => .nil) .nil)
noncomputable def F15 : Fn := ⟨P15, R15, fun k x => S15 k x.1 x.2.1⟩
theorem ok15 : FnOK Try.prog 15 F15 := evalF_ok (E := E15) (T := B15) E15_ok mix Try.func15 rfl (by kernel_rfl) (by kernel_rfl) (fun k => by kernel_rfl) (fun k x => by kernel_rfl)
noncomputable abbrev P12 : List PT := [.val ⟨false, (.sl 5 (.int .u8)), false⟩, .val ⟨false, (.int .u8), false⟩, .val ⟨false, (.int .u8), false⟩]
noncomputable abbrev R12 : List RT := [.val ⟨false, .bool, true⟩]
noncomputable abbrev c12_L22 : Cut := ⟨[10, 11, 13, 15], [.own 36 Y5_1, .own 62 (arrT 5 (.int .i64)), .own 62 (arrT 5 (.int .i64)), .cell (.int .i64)], [], 177⟩
noncomputable def l12_22 (k : Nat) (g22 : (List Y5_0) → Y5_4 → Y5_4 → Int → Option Y5_2) (part1 : List Y5_0) (was1 : List (PN Int 5)) (c : List (PN Int 5)) (i1 : Int) : Option Y5_2 :=
 (bif decide (i1 < (c.length : Int)) then
  ix c i1 <|
  ix was1 i1 <|
  (bif decide ((rd c i1 (prep (α := Int) 5 0)).2.2.2.1 > (rd was1 i1 (prep (α := Int) 5 0)).2.2.2.1) then
   some ((false, ()), ())
  else
   ix c i1 <|
   ix was1 i1 <|
   (bif (rd c i1 (prep (α := Int) 5 0)).1 != (rd was1 i1 (prep (α := Int) 5 0)).1 then
    some ((false, ()), ())
   else
    ix c i1 <|
    ix was1 i1 <|
    (bif (rd c i1 (prep (α := Int) 5 0)).2.1 != (rd was1 i1 (prep (α := Int) 5 0)).2.1 then
     some ((false, ()), ())
    else
     ix c i1 <|
     ix was1 i1 <|
     (bif decide ((rd c i1 (prep (α := Int) 5 0)).2.2.1 > (rd was1 i1 (prep (α := Int) 5 0)).2.2.1) then
      some ((false, ()), ())
     else
      ix c i1 <|
      ix c i1 <|
      ix part1 i1 <|
      (bif (IntKind.i64.wrap ((rd c i1 (prep (α := Int) 5 0)).2.2.2.2 + (rd c i1 (prep (α := Int) 5 0)).2.2.2.1)) != (rd part1 i1 (0, 0, 0, [], [], [])).2.2.1 then
       some ((false, ()), ())
      else
       ix c i1 <|
       ix c i1 <|
       ix c i1 <|
       (bif decide ((rd c i1 (prep (α := Int) 5 0)).2.2.2.1 < (IntKind.i64.wrap ((rd c i1 (prep (α := Int) 5 0)).1 + (rd c i1 (prep (α := Int) 5 0)).2.2.1))) then
        some ((false, ()), ())
       else
        g22 part1 was1 c (IntKind.i64.wrap (i1 + 1))))))))
 else
  some ((true, ()), ()))
noncomputable def b12_22 (k : Nat) (g : ((Unit) × (List Y5_0) × Y5_4 × Y5_4 × Int × Unit) → Option Y5_2) (d : (Unit) × (List Y5_0) × Y5_4 × Y5_4 × Int × Unit) : Option Y5_2 := l12_22 k (fun part1 was1 c i1 => g ((), part1, was1, c, i1, ())) d.2.1 d.2.2.1 d.2.2.2.1 d.2.2.2.2.1
noncomputable def L12_22 (k : Nat) (j : Nat) (part1 : List Y5_0) (was1 : List (PN Int 5)) (c : List (PN Int 5)) (i1 : Int) : Option Y5_2 := iter (R := (Bool × Unit) × Unit) c12_L22 (b12_22 k) j ((), part1, was1, c, i1, ())
theorem L12_22_s (k : Nat) (j : Nat) (part1 : List Y5_0) (was1 : List (PN Int 5)) (c : List (PN Int 5)) (i1 : Int) : L12_22 k (j + 1) part1 was1 c i1 = l12_22 k (L12_22 k j) part1 was1 c i1 := iter_succ _ _ _ _
noncomputable abbrev c12_L14 : Cut := ⟨[1, 2, 7, 8, 10, 11, 12], [.cell (.int .u8), .cell (.int .u8), .own 36 Y5_1, .own 62 (arrT 5 (.int .i64)), .own 36 Y5_1, .own 62 (arrT 5 (.int .i64)), .cell (.int .i64)], [], 177⟩
noncomputable def l12_14 (k : Nat) (g14 : Int → Int → (List Y5_0) → Y5_4 → (List Y5_0) → Y5_4 → Int → Option Y5_2) (apart1 : Int) (which1 : Int) (l_ : List Y5_0) (b : List (PN Int 5)) (part : List Y5_0) (was : List (PN Int 5)) (i : Int) : Option Y5_2 :=
 (bif decide (i < (l_.length : Int)) then
  nneg i <|
  (bif (iand .u8 (ishr .u8 which1 i) 1) == 1 then
   ix l_ i <|
   ap part ([rd l_ i (0, 0, 0, [], [], [])] : List Y5_0) 96 fun r3 =>
   ix b i <|
   ap was ([rd b i (prep (α := Int) 5 0)] : List (PN Int 5)) 40 fun r4 =>
   g14 apart1 which1 l_ b r3 r4 (IntKind.i64.wrap (i + 1))
  else
   g14 apart1 which1 l_ b part was (IntKind.i64.wrap (i + 1)))
 else
  (S26 k part (IntKind.i64.wrap (20 + (IntKind.i64.wrap apart1)))).bind fun q5 =>
  (bif q5.1.2.1 != 0 then
   some ((false, ()), ())
  else
   (bif (q5.1.1.length : Int) != (part.length : Int) then
    some ((false, ()), ())
   else
    L12_22 k k part was q5.1.1 0)))
noncomputable def b12_14 (k : Nat) (g : ((Unit) × Int × Int × (List Y5_0) × Y5_4 × (List Y5_0) × Y5_4 × Int × Unit) → Option Y5_2) (d : (Unit) × Int × Int × (List Y5_0) × Y5_4 × (List Y5_0) × Y5_4 × Int × Unit) : Option Y5_2 := l12_14 k (fun apart1 which1 l_ b part was i => g ((), apart1, which1, l_, b, part, was, i, ())) d.2.1 d.2.2.1 d.2.2.2.1 d.2.2.2.2.1 d.2.2.2.2.2.1 d.2.2.2.2.2.2.1 d.2.2.2.2.2.2.2.1
noncomputable def L12_14 (k : Nat) (j : Nat) (apart1 : Int) (which1 : Int) (l_ : List Y5_0) (b : List (PN Int 5)) (part : List Y5_0) (was : List (PN Int 5)) (i : Int) : Option Y5_2 := iter (R := (Bool × Unit) × Unit) c12_L14 (b12_14 k) j ((), apart1, which1, l_, b, part, was, i, ())
theorem L12_14_s (k : Nat) (j : Nat) (apart1 : Int) (which1 : Int) (l_ : List Y5_0) (b : List (PN Int 5)) (part : List Y5_0) (was : List (PN Int 5)) (i : Int) : L12_14 k (j + 1) apart1 which1 l_ b part was i = l12_14 k (L12_14 k j) apart1 which1 l_ b part was i := iter_succ _ _ _ _
noncomputable def S12 (k : Nat) (picks : List Int) (apart : Int) (which : Int) : Option Y5_2 :=
 (S23 k).bind fun q0 =>
 (bif !q0.1.1 then
  some ((false, ()), ())
 else
  (bif decide ((picks.length : Int) > 250) then
   some ((true, ()), ())
  else
   (S15 k picks 6).bind fun q1 =>
   (S26 k q1.1.1 (IntKind.i64.wrap (20 + (IntKind.i64.wrap apart)))).bind fun q2 =>
   (bif q2.1.2.1 != 0 then
    some (((q2.1.1.length : Int) == 0, ()), ())
   else
    (bif (q2.1.1.length : Int) != (q1.1.1.length : Int) then
     some ((false, ()), ())
    else
     L12_14 k k apart which q1.1.1 q2.1.1 ([] : List Y5_0) ([] : List (PN Int 5)) 0))))
noncomputable def E12 : Env := tab.env (lk [(15, F15), (23, F23), (26, F26)]) (hintL [(10, 2), (11, 2)])
theorem E12_ok : EnvOK Try.prog E12 := envOK_of tabOK _ _ (allFn_lk (l := [(15, F15), (23, F23), (26, F26)]) ⟨ok15, ok23, ok26, trivial⟩)
noncomputable def B12 (k : Nat) : Tbl (RD R12 × MD P12) := (.loop 22 c12_L22 (b12_22 k) (fun g => .nil) (.loop 14 c12_L14 (b12_14 k) (fun g => .nil) .nil))
noncomputable def F12 : Fn := ⟨P12, R12, fun k x => S12 k x.1 x.2.1 x.2.2.1⟩
theorem ok12 : FnOK Try.prog 12 F12 := evalF_ok (E := E12) (T := B12) E12_ok mix Try.func12 rfl (by kernel_rfl) (by kernel_rfl) (fun k => by kernel_rfl) (fun k x => by kernel_rfl)
end Go.Proofs.Ytinopkpnlibopaa.Ab
