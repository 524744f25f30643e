import Derived.Test.YtinopkpnlibopaaAbO4
/- Contracts, printed by this session's own program gen.py. -/
set_option linter.unusedVariables false
set_option linter.unusedSimpArgs false
set_option maxRecDepth 100000
namespace Go.Proofs.Ytinopkpnlibopaa.Ab
open Go.RowKit
abbrev Y5_0 : Type := Int × Int × Int × (List (Int × Int × Int × Int)) × (List (Int × Int × Int × Int)) × List (Int × Int × Int × Int)
abbrev Y5_1 : Ty := .pair (.int .i64) (.pair (.int .i64) (.pair (.int .i64) (.pair (.sl 60 (.pair (.int .i64) (.pair (.int .i64) (.pair (.int .i64) (.int .i64))))) (.pair (.sl 60 (.pair (.int .i64) (.pair (.int .i64) (.pair (.int .i64) (.int .i64))))) (.sl 60 (.pair (.int .i64) (.pair (.int .i64) (.pair (.int .i64) (.int .i64)))))))))
abbrev Y5_2 : Type := Int × Int × Int × Int
abbrev Y5_3 : Ty := .pair (.int .i64) (.pair (.int .i64) (.pair (.int .i64) (.int .i64)))
abbrev Y5_4 : Type := (Bool × Unit) × Unit
abbrev Y5_5 : Type := (List Y5_0) → Int → Int → Int → (List Y5_2) → (List Y5_0) → Int → Int → Option Y5_4
abbrev Y5_6 : Type := ((List Y5_0) × Unit) × Unit
abbrev Y5_7 : Type := Int × Int × Int × (List Y5_2) × (List Y5_2) × List Y5_2
noncomputable abbrev P34 : List PT := [.val ⟨true, Y5_1, false⟩]
noncomputable abbrev R34 : List RT := [.val ⟨false, (.int .i64), true⟩]
noncomputable def S34 (k : Nat) (t : Y5_7) : Option ((Int × Unit) × Unit) :=
 (S45 k t.2.2.2.1).bind fun q0 =>
 (S45 k t.2.2.2.2.1).bind fun q1 =>
 (S45 k t.2.2.2.2.2).bind fun q2 =>
 (bif decide (t.1 < 0) then
  some ((1, ()), ())
 else
  (bif decide (t.1 > 63) then
   some ((1, ()), ())
  else
   (bif decide (t.2.1 < 1) then
    some ((9, ()), ())
   else
    (bif decide (t.2.1 > 16384) then
     some ((9, ()), ())
    else
     (bif decide (t.2.2.1 < 1) then
      some ((9, ()), ())
     else
      (bif decide (t.2.2.1 > t.2.1) then
       some ((9, ()), ())
      else
       (bif !q0.1.2.1 then
        some ((2, ()), ())
       else
        (bif decide ((t.2.2.2.2.1.length : Int) > 0) then
         (bif !q1.1.2.1 then
          some ((2, ()), ())
         else
          (bif decide ((t.2.2.2.2.2.length : Int) > 0) then
           (bif !q2.1.2.1 then
            some ((2, ()), ())
           else
            (S53 k t.2.2.2.2.2).bind fun q3 =>
            (bif q3.1.1 then
             some ((2, ()), ())
            else
             (bif decide (q0.1.1.1 > t.2.2.1) then
              some ((10, ()), ())
             else
              (bif decide ((t.2.2.2.2.1.length : Int) > 0) then
               (bif decide (q1.1.1.1 > q0.1.1.1) then
                some ((12, ()), ())
               else
                some ((0, ()), ()))
              else
               some ((0, ()), ())))))
          else
           (bif decide (q0.1.1.1 > t.2.2.1) then
            some ((10, ()), ())
           else
            (bif decide ((t.2.2.2.2.1.length : Int) > 0) then
             (bif decide (q1.1.1.1 > q0.1.1.1) then
              some ((12, ()), ())
             else
              some ((0, ()), ()))
            else
             some ((0, ()), ())))))
        else
         (bif decide ((t.2.2.2.2.2.length : Int) > 0) then
          (bif !q2.1.2.1 then
           some ((2, ()), ())
          else
           (S53 k t.2.2.2.2.2).bind fun q4 =>
           (bif q4.1.1 then
            some ((2, ()), ())
           else
            (bif decide (q0.1.1.1 > t.2.2.1) then
             some ((10, ()), ())
            else
             (bif decide ((t.2.2.2.2.1.length : Int) > 0) then
              (bif decide (q1.1.1.1 > q0.1.1.1) then
               some ((12, ()), ())
              else
               some ((0, ()), ()))
             else
              some ((0, ()), ())))))
         else
          (bif decide (q0.1.1.1 > t.2.2.1) then
           some ((10, ()), ())
          else
           (bif decide ((t.2.2.2.2.1.length : Int) > 0) then
            (bif decide (q1.1.1.1 > q0.1.1.1) then
             some ((12, ()), ())
            else
             some ((0, ()), ()))
           else
            some ((0, ()), ()))))))))))))
noncomputable def E34 : Env := tab.env (lk [(45, F45), (53, F53)]) (hintL [])
theorem E34_ok : EnvOK Try.prog E34 := envOK_of tabOK _ _ (allFn_lk (l := [(45, F45), (53, F53)]) ⟨ok45, ok53, trivial⟩)
noncomputable def B34 (k : Nat) : Tbl (RD R34 × MD P34) := .nil
noncomputable def F34 : Fn := ⟨P34, R34, fun k x => S34 k x.1⟩
theorem ok34 : FnOK Try.prog 34 F34 := evalF_ok (E := E34) (T := B34) E34_ok mix Try.func34 rfl (by kernel_rfl) (by kernel_rfl) (fun k => by kernel_rfl) (fun k x => by kernel_rfl)
noncomputable abbrev P15 : List PT := [.val ⟨false, (.sl 5 (.int .u8)), false⟩, .val ⟨false, (.int .i64), false⟩]
noncomputable abbrev R15 : List RT := [.val ⟨false, (.sl 36 Y5_1), true⟩]
noncomputable abbrev c15_L5 : Cut := ⟨[5, 6, 7, 8], [.box 79 [.cell (.sl 5 (.int .u8)), .cell (.int .i64)], .own 36 Y5_1, .cell (.int .i64), .cell (.int .i64)], [], 39⟩
noncomputable def l15_5 (k : Nat) (g5 : (List Int) → Int → (List Y5_0) → Int → Int → Option Y5_6) (p : List Int) (p1 : Int) (l_ : List Y5_0) (locks : Int) (i : Int) : Option Y5_6 :=
 (bif decide (i > 0) then
  (S33 k p p1 3).bind fun q3 =>
  (S25 k q3.2.1.1 q3.2.1.2.1 (IntKind.i64.wrap ((IntKind.i64.wrap (3 * (l_.length : Int))) + q3.1.1)) locks).bind fun q4 =>
  (S34 k q4.1.1).bind fun q5 =>
  (bif q5.1.1 == 0 then
   ap l_ ([q4.1.1] : List Y5_0) 96 fun r6 =>
   g5 q4.2.1.1 q4.2.1.2.1 r6 locks (IntKind.i64.wrap (i - 1))
  else
   g5 q4.2.1.1 q4.2.1.2.1 l_ locks (IntKind.i64.wrap (i - 1)))
 else
  some ((l_, ()), ()))
noncomputable def b15_5 (k : Nat) (g : ((Unit) × ((List Int) × Int × Unit) × (List Y5_0) × Int × Int × Unit) → Option Y5_6) (d : (Unit) × ((List Int) × Int × Unit) × (List Y5_0) × Int × Int × Unit) : Option Y5_6 := l15_5 k (fun p p1 l_ locks i => g ((), (p, p1, ()), l_, locks, i, ())) d.2.1.1 d.2.1.2.1 d.2.2.1 d.2.2.2.1 d.2.2.2.2.1
noncomputable def L15_5 (k : Nat) (j : Nat) (p : List Int) (p1 : Int) (l_ : List Y5_0) (locks : Int) (i : Int) : Option Y5_6 := iter (R := ((List Y5_0) × Unit) × Unit) c15_L5 (b15_5 k) j ((), (p, p1, ()), l_, locks, i, ())
theorem L15_5_s (k : Nat) (j : Nat) (p : List Int) (p1 : Int) (l_ : List Y5_0) (locks : Int) (i : Int) : L15_5 k (j + 1) p p1 l_ locks i = l15_5 k (L15_5 k j) p p1 l_ locks i := iter_succ _ _ _ _
noncomputable def S15 (k : Nat) (picks : List Int) (most : Int) : Option Y5_6 :=
 (S24 k picks).bind fun q0 =>
 (S33 k q0.1.1.1 q0.1.1.2.1 4).bind fun q1 =>
 (S33 k q1.2.1.1 q1.2.1.2.1 most).bind fun q2 =>
 L15_5 k k q2.2.1.1 q2.2.1.2.1 ([] : List Y5_0) q1.1.1 (IntKind.i64.wrap (q2.1.1 + 1))
noncomputable def E15 : Env := tab.env (lk [(24, F24), (25, F25), (33, F33), (34, F34)]) (hintL [(6, 2)])
theorem E15_ok : EnvOK Try.prog E15 := envOK_of tabOK _ _ (allFn_lk (l := [(24, F24), (25, F25), (33, F33), (34, F34)]) ⟨ok24, ok25, ok33, ok34, trivial⟩)
noncomputable def B15 (k : Nat) : Tbl (RD R15 × MD P15) := (.loop 5 c15_L5 (b15_5 k) (fun g => .nil) .nil)
noncomputable def F15 : Fn := ⟨P15, R15, fun k x => S15 k x.1 x.2.1⟩
theorem ok15 : FnOK Try.prog 15 F15 := evalF_ok (E := E15) (T := B15) E15_ok mix Try.func15 rfl (by kernel_rfl) (by kernel_rfl) (fun k => by kernel_rfl) (fun k x => by kernel_rfl)
noncomputable abbrev P52 : List PT := [.val ⟨false, (.sl 60 Y5_3), false⟩, .val ⟨false, (.sl 60 Y5_3), false⟩]
noncomputable abbrev R52 : List RT := [.val ⟨false, .bool, true⟩]
noncomputable abbrev c52_L4 : Cut := ⟨[0, 1, 5], [.cell (.sl 60 Y5_3), .cell (.sl 60 Y5_3), .cell (.int .i64)], [], 26⟩
noncomputable def l52_4 (k : Nat) (g4 : (List Y5_2) → (List Y5_2) → Int → Option Y5_4) (a1 : List Y5_2) (b1 : List Y5_2) (i : Int) : Option Y5_4 :=
 (bif decide (i < (a1.length : Int)) then
  ix a1 i <|
  ix b1 i <|
  (bif !(beqD Y5_3 (rd a1 i (0, 0, 0, 0)) (rd b1 i (0, 0, 0, 0))) then
   some ((false, ()), ())
  else
   g4 a1 b1 (IntKind.i64.wrap (i + 1)))
 else
  some ((true, ()), ()))
noncomputable def b52_4 (k : Nat) (g : ((Unit) × (List Y5_2) × (List Y5_2) × Int × Unit) → Option Y5_4) (d : (Unit) × (List Y5_2) × (List Y5_2) × Int × Unit) : Option Y5_4 := l52_4 k (fun a1 b1 i => g ((), a1, b1, i, ())) d.2.1 d.2.2.1 d.2.2.2.1
noncomputable def L52_4 (k : Nat) (j : Nat) (a1 : List Y5_2) (b1 : List Y5_2) (i : Int) : Option Y5_4 := iter (R := (Bool × Unit) × Unit) c52_L4 (b52_4 k) j ((), a1, b1, i, ())
theorem L52_4_s (k : Nat) (j : Nat) (a1 : List Y5_2) (b1 : List Y5_2) (i : Int) : L52_4 k (j + 1) a1 b1 i = l52_4 k (L52_4 k j) a1 b1 i := iter_succ _ _ _ _
noncomputable def S52 (k : Nat) (a : List Y5_2) (b : List Y5_2) : Option Y5_4 :=
 (bif (a.length : Int) != (b.length : Int) then
  some ((false, ()), ())
 else
  L52_4 k k a b 0)
noncomputable def E52 : Env := tab.env (lk []) (hintL [])
theorem E52_ok : EnvOK Try.prog E52 := envOK_of tabOK _ _ (fun f F h => by cases h)
noncomputable def B52 (k : Nat) : Tbl (RD R52 × MD P52) := (.loop 4 c52_L4 (b52_4 k) (fun g => .nil) .nil)
noncomputable def F52 : Fn := ⟨P52, R52, fun k x => S52 k x.1 x.2.1⟩
theorem ok52 : FnOK Try.prog 52 F52 := evalF_ok (E := E52) (T := B52) E52_ok mix Try.func52 rfl (by kernel_rfl) (by kernel_rfl) (fun k => by kernel_rfl) (fun k x => by kernel_rfl)
noncomputable abbrev P32 : List PT := [.val ⟨true, Y5_1, false⟩, .val ⟨true, Y5_1, false⟩]
noncomputable abbrev R32 : List RT := [.val ⟨false, .bool, true⟩]
noncomputable def S32 (k : Nat) (a : Y5_7) (b : Y5_7) : Option Y5_4 :=
 (bif a.1 == b.1 then
  (bif a.2.1 == b.2.1 then
   (bif a.2.2.1 == b.2.2.1 then
    (S52 k a.2.2.2.1 b.2.2.2.1).bind fun q0 =>
    (bif q0.1.1 then
     (S52 k a.2.2.2.2.1 b.2.2.2.2.1).bind fun q1 =>
     (bif q1.1.1 then
      (S52 k a.2.2.2.2.2 b.2.2.2.2.2).bind fun q2 =>
      some ((q2.1.1, ()), ())
     else
      some ((false, ()), ()))
    else
     some ((false, ()), ()))
   else
    some ((false, ()), ()))
  else
   some ((false, ()), ()))
 else
  some ((false, ()), ()))
noncomputable def E32 : Env := tab.env (lk [(52, F52)]) (hintL [])
theorem E32_ok : EnvOK Try.prog E32 := envOK_of tabOK _ _ (allFn_lk (l := [(52, F52)]) ⟨ok52, trivial⟩)
noncomputable def B32 (k : Nat) : Tbl (RD R32 × MD P32) := .nil
noncomputable def F32 : Fn := ⟨P32, R32, fun k x => S32 k x.1 x.2.1⟩
theorem ok32 : FnOK Try.prog 32 F32 := evalF_ok (E := E32) (T := B32) E32_ok mix Try.func32 rfl (by kernel_rfl) (by kernel_rfl) (fun k => by kernel_rfl) (fun k x => by kernel_rfl)
noncomputable abbrev P13 : List PT := [.val ⟨false, (.sl 5 (.int .u8)), false⟩, .val ⟨false, (.int .u8), false⟩]
noncomputable abbrev R13 : List RT := [.val ⟨false, .bool, true⟩]
noncomputable abbrev c13_J18 : Cut := ⟨[5, 6, 7, 10, 11], [.cell (.sl 36 Y5_1), .box 36 [.cell (.int .i64), .cell (.int .i64), .cell (.int .i64), .cell (.sl 60 Y5_3), .nil, .nil], .own 36 Y5_1, .cell (.int .i64), .cell (.int .i64)], [], 114⟩
noncomputable def j13_18 (k : Nat) (g14 : Y5_5) (l_1 : List Y5_0) (t4 : Int) (t5 : Int) (t6 : Int) (t7 : List Y5_2) (x1 : List Y5_0) (at_1 : Int) (i1 : Int) : Option Y5_4 :=
 ix x1 i1 <|
 (bif (rd x1 i1 (0, 0, 0, [], [], [])).1 == t4 then
  ix x1 i1 <|
  (S32 k (rd x1 i1 (0, 0, 0, [], [], [])) (t4, t5, t6, t7, [], [])).bind fun q3 =>
  (bif !q3.1.1 then
   some ((false, ()), ())
  else
   g14 l_1 t4 t5 t6 t7 x1 at_1 (IntKind.i64.wrap (i1 + 1)))
 else
  (bif decide (at_1 ≥ (l_1.length : Int)) then
   some ((false, ()), ())
  else
   ix x1 i1 <|
   ix l_1 at_1 <|
   (S32 k (rd x1 i1 (0, 0, 0, [], [], [])) (rd l_1 at_1 (0, 0, 0, [], [], []))).bind fun q4 =>
   (bif !q4.1.1 then
    some ((false, ()), ())
   else
    g14 l_1 t4 t5 t6 t7 x1 (IntKind.i64.wrap (at_1 + 1)) (IntKind.i64.wrap (i1 + 1)))))
noncomputable abbrev c13_L14 : Cut := ⟨[5, 6, 7, 10, 11], [.cell (.sl 36 Y5_1), .box 36 [.cell (.int .i64), .cell (.int .i64), .cell (.int .i64), .cell (.sl 60 Y5_3), .nil, .nil], .own 36 Y5_1, .cell (.int .i64), .cell (.int .i64)], [], 114⟩
noncomputable def l13_14 (k : Nat) (g14 : Y5_5) (l_ : List Y5_0) (t : Int) (t1 : Int) (t2 : Int) (t3 : List Y5_2) (x : List Y5_0) (at_ : Int) (i : Int) : Option Y5_4 :=
 (bif decide (i < (x.length : Int)) then
  (bif decide (i > 0) then
   ix x i <|
   ix x (IntKind.i64.wrap (i - 1)) <|
   (bif decide ((rd x i (0, 0, 0, [], [], [])).1 ≤ (rd x (IntKind.i64.wrap (i - 1)) (0, 0, 0, [], [], [])).1) then
    some ((false, ()), ())
   else
    j13_18 k g14 l_ t t1 t2 t3 x at_ i)
  else
   j13_18 k g14 l_ t t1 t2 t3 x at_ i)
 else
  some ((at_ == (l_.length : Int), ()), ()))
noncomputable def b13_14 (k : Nat) (g : ((Unit) × (List Y5_0) × (Int × Int × Int × (List Y5_2) × Unit × Unit × Unit) × (List Y5_0) × Int × Int × Unit) → Option Y5_4) (d : (Unit) × (List Y5_0) × (Int × Int × Int × (List Y5_2) × Unit × Unit × Unit) × (List Y5_0) × Int × Int × Unit) : Option Y5_4 := l13_14 k (fun l_ t t1 t2 t3 x at_ i => g ((), l_, (t, t1, t2, t3, (), (), ()), x, at_, i, ())) d.2.1 d.2.2.1.1 d.2.2.1.2.1 d.2.2.1.2.2.1 d.2.2.1.2.2.2.1 d.2.2.2.1 d.2.2.2.2.1 d.2.2.2.2.2.1
noncomputable def L13_14 (k : Nat) (j : Nat) (l_ : List Y5_0) (t : Int) (t1 : Int) (t2 : Int) (t3 : List Y5_2) (x : List Y5_0) (at_ : Int) (i : Int) : Option Y5_4 := iter (R := (Bool × Unit) × Unit) c13_L14 (b13_14 k) j ((), l_, (t, t1, t2, t3, (), (), ()), x, at_, i, ())
theorem L13_14_s (k : Nat) (j : Nat) (l_ : List Y5_0) (t : Int) (t1 : Int) (t2 : Int) (t3 : List Y5_2) (x : List Y5_0) (at_ : Int) (i : Int) : L13_14 k (j + 1) l_ t t1 t2 t3 x at_ i = l13_14 k (L13_14 k j) l_ t t1 t2 t3 x at_ i := iter_succ _ _ _ _
noncomputable def S13 (k : Nat) (picks : List Int) (rank : Int) : Option Y5_4 :=
 (S23 k).bind fun q0 =>
 (bif !q0.1.1 then
  some ((false, ()), ())
 else
  (bif decide ((picks.length : Int) > 250) then
   some ((true, ()), ())
  else
   (S15 k picks 5).bind fun q1 =>
   (S29 k q1.1.1 (IntKind.i64.wrap (Int.tmod rank 64), 5000, 5000, ([(0, 0, 0, 0)] : List Y5_2), [], []) 5000).bind fun q2 =>
   (bif q2.1.2.2.1 != 0 then
    (bif (q2.1.1.length : Int) == 0 then
     some (((q2.1.2.1.length : Int) == 0, ()), ())
    else
     some ((false, ()), ()))
   else
    (bif (q2.1.1.length : Int) != (IntKind.i64.wrap ((q1.1.1.length : Int) + 1)) then
     some ((false, ()), ())
    else
     (bif (q2.1.2.1.length : Int) != (q2.1.1.length : Int) then
      some ((false, ()), ())
     else
      L13_14 k k q1.1.1 (IntKind.i64.wrap (Int.tmod rank 64)) 5000 5000 ([(0, 0, 0, 0)] : List Y5_2) q2.1.1 0 0)))))
noncomputable def E13 : Env := tab.env (lk [(15, F15), (23, F23), (29, F29), (32, F32)]) (hintL [])
theorem E13_ok : EnvOK Try.prog E13 := envOK_of tabOK _ _ (allFn_lk (l := [(15, F15), (23, F23), (29, F29), (32, F32)]) ⟨ok15, ok23, ok29, ok32, trivial⟩)
noncomputable def B13 (k : Nat) : Tbl (RD R13 × MD P13) := (.loop 14 c13_L14 (b13_14 k) (fun g => (fun (g14 : Y5_5) => (.join 18 c13_J18 (fun d => j13_18 k g14 d.2.1 d.2.2.1.1 d.2.2.1.2.1 d.2.2.1.2.2.1 d.2.2.1.2.2.2.1 d.2.2.2.1 d.2.2.2.2.1 d.2.2.2.2.2.1) .nil)) (fun l_ t t1 t2 t3 x at_ i => g ((), l_, (t, t1, t2, t3, (), (), ()), x, at_, i, ()))) .nil)
noncomputable def F13 : Fn := ⟨P13, R13, fun k x => S13 k x.1 x.2.1⟩
theorem ok13 : FnOK Try.prog 13 F13 := evalF_ok (E := E13) (T := B13) E13_ok mix Try.func13 rfl (by kernel_rfl) (by kernel_rfl) (fun k => by kernel_rfl) (fun k x => by kernel_rfl)
end Go.Proofs.Ytinopkpnlibopaa.Ab
