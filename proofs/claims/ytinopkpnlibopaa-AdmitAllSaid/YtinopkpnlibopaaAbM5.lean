import Derived.Test.YtinopkpnlibopaaAbM4
/- Contracts, printed by this session's own program gen.py. -/
set_option linter.unusedVariables false
set_option linter.unusedSimpArgs false
set_option maxRecDepth 100000
namespace Go.Proofs.Ytinopkpnlibopaa.Ab
open Go.RowKit
abbrev Y5_0 : Type := Int × Int × Int × (List (Int × Int × Int × Int)) × (List (Int × Int × Int × Int)) × List (Int × Int × Int × Int)
abbrev Y5_1 : Ty := .pair (.int .i64) (.pair (.int .i64) (.pair (.int .i64) (.pair (.sl 60 (.pair (.int .i64) (.pair (.int .i64) (.pair (.int .i64) (.int .i64))))) (.pair (.sl 60 (.pair (.int .i64) (.pair (.int .i64) (.pair (.int .i64) (.int .i64))))) (.sl 60 (.pair (.int .i64) (.pair (.int .i64) (.pair (.int .i64) (.int .i64)))))))))
abbrev Y5_2 : Type := (Int × Unit) × Unit
abbrev Y5_3 : Type := (((List Int) × Int × Int × List Int) × Unit) × Unit
abbrev Y5_4 : Type := Int × Int × Int × Int
abbrev Y5_5 : Type := (List Y5_0) → Int → Int → Int → Option Y5_2
abbrev Y5_6 : Type := (Int × Bool × Unit) × Unit
abbrev Y5_7 : Type := (List Int) × Int × Int × (List Int) × Unit
abbrev Y5_8 : Type := (Bool × Unit) × Unit
abbrev Y5_9 : Type := ((List (PN Int 5)) × Int × Unit) × Unit
abbrev Y5_10 : Type := (List Y5_0) → Int → Int → Option Y5_2
abbrev Y5_11 : Type := (Int × Int × Int × Unit) × Unit
abbrev Y5_12 : Type := ((List Y5_0) × Unit) × Unit
abbrev Y5_13 : Ty := .pair (.int .i64) (.int .i64)
abbrev Y5_14 : Type := List (PN Int 5)
abbrev Y5_15 : Ty := .sl 36 Y5_1
noncomputable abbrev P34 : List PT := [.val ⟨true, Y5_1, false⟩]
noncomputable abbrev R34 : List RT := [.val ⟨false, (.int .i64), true⟩]
noncomputable def S34 (k : Nat) (t : Int × Int × Int × (List Y5_4) × (List Y5_4) × List Y5_4) : Option Y5_2 :=
 (S45 k t.2.2.2.1).bind fun q0 =>
 (S45 k t.2.2.2.2.1).bind fun q1 =>
 (S45 k t.2.2.2.2.2).bind fun q2 =>
 (bif decide (t.1 < 0) then
  some ((1, ()), ())
 else
  (bif decide (t.1 > 63) then
   some ((1, ()), ())
  else
   (bif decide (t.2.1 < 1) then
    some ((9, ()), ())
   else
    (bif decide (t.2.1 > 16384) then
     some ((9, ()), ())
    else
     (bif decide (t.2.2.1 < 1) then
      some ((9, ()), ())
     else
      (bif decide (t.2.2.1 > t.2.1) then
       some ((9, ()), ())
      else
       (bif !q0.1.2.1 then
        some ((2, ()), ())
       else
        (bif decide ((t.2.2.2.2.1.length : Int) > 0) then
         (bif !q1.1.2.1 then
          some ((2, ()), ())
         else
          (bif decide ((t.2.2.2.2.2.length : Int) > 0) then
           (bif !q2.1.2.1 then
            some ((2, ()), ())
           else
            (S53 k t.2.2.2.2.2).bind fun q3 =>
            (bif q3.1.1 then
             some ((2, ()), ())
            else
             (bif decide (q0.1.1.1 > t.2.2.1) then
              some ((10, ()), ())
             else
              (bif decide ((t.2.2.2.2.1.length : Int) > 0) then
               (bif decide (q1.1.1.1 > q0.1.1.1) then
                some ((12, ()), ())
               else
                some ((0, ()), ()))
              else
               some ((0, ()), ())))))
          else
           (bif decide (q0.1.1.1 > t.2.2.1) then
            some ((10, ()), ())
           else
            (bif decide ((t.2.2.2.2.1.length : Int) > 0) then
             (bif decide (q1.1.1.1 > q0.1.1.1) then
              some ((12, ()), ())
             else
              some ((0, ()), ()))
            else
             some ((0, ()), ())))))
        else
         (bif decide ((t.2.2.2.2.2.length : Int) > 0) then
          (bif !q2.1.2.1 then
           some ((2, ()), ())
          else
           (S53 k t.2.2.2.2.2).bind fun q4 =>
           (bif q4.1.1 then
            some ((2, ()), ())
           else
            (bif decide (q0.1.1.1 > t.2.2.1) then
             some ((10, ()), ())
            else
             (bif decide ((t.2.2.2.2.1.length : Int) > 0) then
              (bif decide (q1.1.1.1 > q0.1.1.1) then
               some ((12, ()), ())
              else
               some ((0, ()), ()))
             else
              some ((0, ()), ())))))
         else
          (bif decide (q0.1.1.1 > t.2.2.1) then
           some ((10, ()), ())
          else
           (bif decide ((t.2.2.2.2.1.length : Int) > 0) then
            (bif decide (q1.1.1.1 > q0.1.1.1) then
             some ((12, ()), ())
            else
             some ((0, ()), ()))
           else
            some ((0, ()), ()))))))))))))
noncomputable def E34 : Env := tab.env (lk [(45, F45), (53, F53)]) (hintL [])
theorem E34_ok : EnvOK Try.prog E34 := envOK_of tabOK _ _ (allFn_lk (l := [(45, F45), (53, F53)]) ⟨ok45, ok53, trivial⟩)
noncomputable def B34 (k : Nat) : Tbl (RD R34 × MD P34) := .nil
noncomputable def F34 : Fn := ⟨P34, R34, fun k x => S34 k x.1⟩
theorem ok34 : FnOK Try.prog 34 F34 := evalF_ok (E := E34) (T := B34) E34_ok mix Try.func34 rfl (by kernel_rfl) (by kernel_rfl) (fun k => by kernel_rfl) (fun k x => by kernel_rfl)
noncomputable abbrev P15 : List PT := [.val ⟨false, (.sl 5 (.int .u8)), false⟩, .val ⟨false, (.int .i64), false⟩]
noncomputable abbrev R15 : List RT := [.val ⟨false, Y5_15, true⟩]
noncomputable abbrev c15_L5 : Cut := ⟨[5, 6, 7, 8], [.box 79 [.cell (.sl 5 (.int .u8)), .cell (.int .i64)], .own 36 Y5_1, .cell (.int .i64), .cell (.int .i64)], [], 39⟩
noncomputable def l15_5 (k : Nat) (g5 : (List Int) → Int → (List Y5_0) → Int → Int → Option Y5_12) (p : List Int) (p1 : Int) (l_ : List Y5_0) (locks : Int) (i : Int) : Option Y5_12 :=
 (bif decide (i > 0) then
  (S33 k p p1 3).bind fun q3 =>
  (S25 k q3.2.1.1 q3.2.1.2.1 (IntKind.i64.wrap ((IntKind.i64.wrap (3 * (l_.length : Int))) + q3.1.1)) locks).bind fun q4 =>
  (S34 k q4.1.1).bind fun q5 =>
  (bif q5.1.1 == 0 then
   ap l_ ([q4.1.1] : List Y5_0) 96 fun r6 =>
   g5 q4.2.1.1 q4.2.1.2.1 r6 locks (IntKind.i64.wrap (i - 1))
  else
   g5 q4.2.1.1 q4.2.1.2.1 l_ locks (IntKind.i64.wrap (i - 1)))
 else
  some ((l_, ()), ()))
noncomputable def b15_5 (k : Nat) (g : ((Unit) × ((List Int) × Int × Unit) × (List Y5_0) × Int × Int × Unit) → Option Y5_12) (d : (Unit) × ((List Int) × Int × Unit) × (List Y5_0) × Int × Int × Unit) : Option Y5_12 := l15_5 k (fun p p1 l_ locks i => g ((), (p, p1, ()), l_, locks, i, ())) d.2.1.1 d.2.1.2.1 d.2.2.1 d.2.2.2.1 d.2.2.2.2.1
noncomputable def L15_5 (k : Nat) (j : Nat) (p : List Int) (p1 : Int) (l_ : List Y5_0) (locks : Int) (i : Int) : Option Y5_12 := iter (R := ((List Y5_0) × Unit) × Unit) c15_L5 (b15_5 k) j ((), (p, p1, ()), l_, locks, i, ())
theorem L15_5_s (k : Nat) (j : Nat) (p : List Int) (p1 : Int) (l_ : List Y5_0) (locks : Int) (i : Int) : L15_5 k (j + 1) p p1 l_ locks i = l15_5 k (L15_5 k j) p p1 l_ locks i := iter_succ _ _ _ _
noncomputable def S15 (k : Nat) (picks : List Int) (most : Int) : Option Y5_12 :=
 (S24 k picks).bind fun q0 =>
 (S33 k q0.1.1.1 q0.1.1.2.1 4).bind fun q1 =>
 (S33 k q1.2.1.1 q1.2.1.2.1 most).bind fun q2 =>
 L15_5 k k q2.2.1.1 q2.2.1.2.1 ([] : List Y5_0) q1.1.1 (IntKind.i64.wrap (q2.1.1 + 1))
noncomputable def E15 : Env := tab.env (lk [(24, F24), (25, F25), (33, F33), (34, F34)]) (hintL [(6, 2)])
theorem E15_ok : EnvOK Try.prog E15 := envOK_of tabOK _ _ (allFn_lk (l := [(24, F24), (25, F25), (33, F33), (34, F34)]) ⟨ok24, ok25, ok33, ok34, trivial⟩)
noncomputable def B15 (k : Nat) : Tbl (RD R15 × MD P15) := (.loop 5 c15_L5 (b15_5 k) (fun g => .nil) .nil)
noncomputable def F15 : Fn := ⟨P15, R15, fun k x => S15 k x.1 x.2.1⟩
theorem ok15 : FnOK Try.prog 15 F15 := evalF_ok (E := E15) (T := B15) E15_ok mix Try.func15 rfl (by kernel_rfl) (by kernel_rfl) (fun k => by kernel_rfl) (fun k x => by kernel_rfl)
noncomputable abbrev P40 : List PT := [.val ⟨false, Y5_15, false⟩]
noncomputable abbrev R40 : List RT := [.val ⟨false, .bool, true⟩]
noncomputable abbrev c40_L2 : Cut := ⟨[0, 3], [.cell Y5_15, .cell (.int .i64)], [], 34⟩
noncomputable def l40_2 (k : Nat) (g2 : (List Y5_0) → Int → Option Y5_8) (l_1 : List Y5_0) (i : Int) : Option Y5_8 :=
 (bif decide (i < (l_1.length : Int)) then
  ix l_1 i <|
  (S34 k (rd l_1 i (0, 0, 0, [], [], []))).bind fun q0 =>
  (bif q0.1.1 != 0 then
   some ((false, ()), ())
  else
   (bif decide (i > 0) then
    ix l_1 i <|
    ix l_1 (IntKind.i64.wrap (i - 1)) <|
    (bif decide ((rd l_1 i (0, 0, 0, [], [], [])).1 ≤ (rd l_1 (IntKind.i64.wrap (i - 1)) (0, 0, 0, [], [], [])).1) then
     some ((false, ()), ())
    else
     g2 l_1 (IntKind.i64.wrap (i + 1)))
   else
    g2 l_1 (IntKind.i64.wrap (i + 1))))
 else
  some ((true, ()), ()))
noncomputable def b40_2 (k : Nat) (g : ((Unit) × (List Y5_0) × Int × Unit) → Option Y5_8) (d : (Unit) × (List Y5_0) × Int × Unit) : Option Y5_8 := l40_2 k (fun l_1 i => g ((), l_1, i, ())) d.2.1 d.2.2.1
noncomputable def L40_2 (k : Nat) (j : Nat) (l_1 : List Y5_0) (i : Int) : Option Y5_8 := iter (R := (Bool × Unit) × Unit) c40_L2 (b40_2 k) j ((), l_1, i, ())
theorem L40_2_s (k : Nat) (j : Nat) (l_1 : List Y5_0) (i : Int) : L40_2 k (j + 1) l_1 i = l40_2 k (L40_2 k j) l_1 i := iter_succ _ _ _ _
noncomputable def S40 (k : Nat) (l_ : List Y5_0) : Option Y5_8 :=
 L40_2 k k l_ 0
noncomputable def E40 : Env := tab.env (lk [(34, F34)]) (hintL [])
theorem E40_ok : EnvOK Try.prog E40 := envOK_of tabOK _ _ (allFn_lk (l := [(34, F34)]) ⟨ok34, trivial⟩)
noncomputable def B40 (k : Nat) : Tbl (RD R40 × MD P40) := (.loop 2 c40_L2 (b40_2 k) (fun g => .nil) .nil)
noncomputable def F40 : Fn := ⟨P40, R40, fun k x => S40 k x.1⟩
theorem ok40 : FnOK Try.prog 40 F40 := evalF_ok (E := E40) (T := B40) E40_ok mix Try.func40 rfl (by kernel_rfl) (by kernel_rfl) (fun k => by kernel_rfl) (fun k x => by kernel_rfl)
noncomputable abbrev P22 : List PT := [.val ⟨true, Y5_1, false⟩]
noncomputable abbrev R22 : List RT := [.val ⟨false, (.int .i64), true⟩, .val ⟨false, (.int .i64), true⟩, .val ⟨false, (.sl 73 Y5_13), true⟩]
noncomputable abbrev c22_J8 : Cut := ⟨[5, 7, 9], [.box 75 [.cell (.int .i64), .cell (.int .i64), .own 73 Y5_13], .box 75 [.cell (.int .i64), .cell (.int .i64), .own 73 Y5_13], .cell (.int .i64)], [], 43⟩
noncomputable def j22_8 (k : Nat) (main : Int) (main1 : Int) (main2 : List (Int × Int)) (way : Int) (way1 : Int) (way2 : List (Int × Int)) (lost : Int) : Option ((Int × Int × (List (Int × Int)) × Unit) × Unit) :=
 ap ([] : List (Int × Int)) main2 16 fun r3 =>
 ap r3 way2 16 fun r4 =>
 some ((main, lost, r4, ()), ())
noncomputable def S22 (k : Nat) (t : Int × Int × Int × (List Y5_4) × (List Y5_4) × List Y5_4) : Option ((Int × Int × (List (Int × Int)) × Unit) × Unit) :=
 (S34 k t).bind fun q0 =>
 (bif q0.1.1 != 0 then
  some ((0, 0, [], ()), ())
 else
  (S45 k t.2.2.2.1).bind fun q1 =>
  (S45 k t.2.2.2.2.1).bind fun q2 =>
  (bif decide ((t.2.2.2.2.1.length : Int) > 0) then
   j22_8 k q1.1.1.1 q1.1.1.2.1 q1.1.1.2.2 q2.1.1.1 q2.1.1.2.1 q2.1.1.2.2 q2.1.1.1
  else
   j22_8 k q1.1.1.1 q1.1.1.2.1 q1.1.1.2.2 q2.1.1.1 q2.1.1.2.1 q2.1.1.2.2 q1.1.1.2.1))
noncomputable def E22 : Env := tab.env (lk [(34, F34), (45, F45)]) (hintL [])
theorem E22_ok : EnvOK Try.prog E22 := envOK_of tabOK _ _ (allFn_lk (l := [(34, F34), (45, F45)]) ⟨ok34, ok45, trivial⟩)
noncomputable def B22 (k : Nat) : Tbl (RD R22 × MD P22) := (.join 8 c22_J8 (fun d => j22_8 k d.2.1.1 d.2.1.2.1 d.2.1.2.2.1 d.2.2.1.1 d.2.2.1.2.1 d.2.2.1.2.2.1 d.2.2.2.1) .nil)
noncomputable def F22 : Fn := ⟨P22, R22, fun k x => S22 k x.1⟩
theorem ok22 : FnOK Try.prog 22 F22 := evalF_ok (E := E22) (T := B22) E22_ok mix Try.func22 rfl (by kernel_rfl) (by kernel_rfl) (fun k => by kernel_rfl) (fun k x => by kernel_rfl)
noncomputable abbrev P44 : List PT := [.val ⟨false, Y5_15, false⟩, .val ⟨false, (.int .i64), false⟩]
noncomputable abbrev R44 : List RT := [.val ⟨false, (.int .i64), true⟩]
noncomputable abbrev c44_L6 : Cut := ⟨[0, 1, 5, 6, 7], [.cell Y5_15, .cell (.int .i64), .cell (.int .i64), .own 60 (.pair (.int .i64) (.pair (.int .i64) Y5_13)), .cell (.int .i64)], [], 49⟩
noncomputable def l44_6 (k : Nat) (g2 : Y5_10) (g6 : (List Y5_0) → Int → Int → (List Y5_4) → Int → Option Y5_2) (l_2 : List Y5_0) (s2 : Int) (i1 : Int) (code : List Y5_4) (k_ : Int) : Option Y5_2 :=
 (bif decide (k_ < (code.length : Int)) then
  ix code k_ <|
  (bif (rd code k_ (0, 0, 0, 0)).1 == 9 then
   ix code k_ <|
   (bif (rd code k_ (0, 0, 0, 0)).2.1 == s2 then
    some ((i1, ()), ())
   else
    g6 l_2 s2 i1 code (IntKind.i64.wrap (k_ + 1)))
  else
   g6 l_2 s2 i1 code (IntKind.i64.wrap (k_ + 1)))
 else
  g2 l_2 s2 (IntKind.i64.wrap (i1 + 1)))
noncomputable def b44_6 (k : Nat) (g2 : Y5_10) (g : ((Unit) × (List Y5_0) × Int × Int × (List Y5_4) × Int × Unit) → Option Y5_2) (d : (Unit) × (List Y5_0) × Int × Int × (List Y5_4) × Int × Unit) : Option Y5_2 := l44_6 k g2 (fun l_2 s2 i1 code k_ => g ((), l_2, s2, i1, code, k_, ())) d.2.1 d.2.2.1 d.2.2.2.1 d.2.2.2.2.1 d.2.2.2.2.2.1
noncomputable def L44_6 (k : Nat) (g2 : Y5_10) (j : Nat) (l_2 : List Y5_0) (s2 : Int) (i1 : Int) (code : List Y5_4) (k_ : Int) : Option Y5_2 := iter (R := (Int × Unit) × Unit) c44_L6 (b44_6 k g2) j ((), l_2, s2, i1, code, k_, ())
theorem L44_6_s (k : Nat) (g2 : Y5_10) (j : Nat) (l_2 : List Y5_0) (s2 : Int) (i1 : Int) (code : List Y5_4) (k_ : Int) : L44_6 k g2 (j + 1) l_2 s2 i1 code k_ = l44_6 k g2 (L44_6 k g2 j) l_2 s2 i1 code k_ := iter_succ _ _ _ _
noncomputable abbrev c44_L2 : Cut := ⟨[0, 1, 5], [.cell Y5_15, .cell (.int .i64), .cell (.int .i64)], [], 49⟩
noncomputable def l44_2 (k : Nat) (g2 : Y5_10) (l_1 : List Y5_0) (s1 : Int) (i : Int) : Option Y5_2 :=
 (bif decide (i < (l_1.length : Int)) then
  ix l_1 i <|
  ap ([] : List Y5_4) (rd l_1 i (0, 0, 0, [], [], [])).2.2.2.1 32 fun r0 =>
  ix l_1 i <|
  ap r0 (rd l_1 i (0, 0, 0, [], [], [])).2.2.2.2.1 32 fun r1 =>
  L44_6 k g2 k l_1 s1 i r1 0
 else
  some ((8, ()), ()))
noncomputable def b44_2 (k : Nat) (g : ((Unit) × (List Y5_0) × Int × Int × Unit) → Option Y5_2) (d : (Unit) × (List Y5_0) × Int × Int × Unit) : Option Y5_2 := l44_2 k (fun l_1 s1 i => g ((), l_1, s1, i, ())) d.2.1 d.2.2.1 d.2.2.2.1
noncomputable def L44_2 (k : Nat) (j : Nat) (l_1 : List Y5_0) (s1 : Int) (i : Int) : Option Y5_2 := iter (R := (Int × Unit) × Unit) c44_L2 (b44_2 k) j ((), l_1, s1, i, ())
theorem L44_2_s (k : Nat) (j : Nat) (l_1 : List Y5_0) (s1 : Int) (i : Int) : L44_2 k (j + 1) l_1 s1 i = l44_2 k (L44_2 k j) l_1 s1 i := iter_succ _ _ _ _
noncomputable def S44 (k : Nat) (l_ : List Y5_0) (s : Int) : Option Y5_2 :=
 L44_2 k k l_ s 0
noncomputable def E44 : Env := tab.env (lk []) (hintL [])
theorem E44_ok : EnvOK Try.prog E44 := envOK_of tabOK _ _ (fun f F h => by cases h)
noncomputable def B44 (k : Nat) : Tbl (RD R44 × MD P44) := (.loop 2 c44_L2 (b44_2 k) (fun g => (fun (g2 : Y5_10) => (.loop 6 c44_L6 (b44_6 k g2) (fun g => .nil) .nil)) (fun l_1 s1 i => g ((), l_1, s1, i, ()))) .nil)
noncomputable def F44 : Fn := ⟨P44, R44, fun k x => S44 k x.1 x.2.1⟩
theorem ok44 : FnOK Try.prog 44 F44 := evalF_ok (E := E44) (T := B44) E44_ok mix Try.func44 rfl (by kernel_rfl) (by kernel_rfl) (fun k => by kernel_rfl) (fun k x => by kernel_rfl)
noncomputable abbrev P21 : List PT := [.val ⟨false, Y5_15, false⟩, .val ⟨false, (.int .i64), false⟩]
noncomputable abbrev R21 : List RT := [.val ⟨false, (.int .i64), true⟩]
noncomputable abbrev c21_L8 : Cut := ⟨[0, 1, 5, 6, 9, 10], [.cell Y5_15, .cell (.int .i64), .cell (.int .i64), .cell (.int .i64), .own 73 Y5_13, .cell (.int .i64)], [], 52⟩
noncomputable def l21_8 (k : Nat) (g3 : Y5_5) (g8 : (List Y5_0) → Int → Int → Int → (List (Int × Int)) → Int → Option Y5_2) (l_2 : List Y5_0) (i2 : Int) (most1 : Int) (k_1 : Int) (spans : List (Int × Int)) (n : Int) : Option Y5_2 :=
 (bif decide (n < (spans.length : Int)) then
  ix spans n <|
  (S44 k l_2 (rd spans n (0, 0)).1).bind fun q1 =>
  (bif decide (q1.1.1 ≤ i2) then
   ix spans n <|
   g8 l_2 i2 (mx most1 (rd spans n (0, 0)).2) k_1 spans (IntKind.i64.wrap (n + 1))
  else
   g8 l_2 i2 most1 k_1 spans (IntKind.i64.wrap (n + 1)))
 else
  g3 l_2 i2 most1 (IntKind.i64.wrap (k_1 + 1)))
noncomputable def b21_8 (k : Nat) (g3 : Y5_5) (g : ((Unit) × (List Y5_0) × Int × Int × Int × (List (Int × Int)) × Int × Unit) → Option Y5_2) (d : (Unit) × (List Y5_0) × Int × Int × Int × (List (Int × Int)) × Int × Unit) : Option Y5_2 := l21_8 k g3 (fun l_2 i2 most1 k_1 spans n => g ((), l_2, i2, most1, k_1, spans, n, ())) d.2.1 d.2.2.1 d.2.2.2.1 d.2.2.2.2.1 d.2.2.2.2.2.1 d.2.2.2.2.2.2.1
noncomputable def L21_8 (k : Nat) (g3 : Y5_5) (j : Nat) (l_2 : List Y5_0) (i2 : Int) (most1 : Int) (k_1 : Int) (spans : List (Int × Int)) (n : Int) : Option Y5_2 := iter (R := (Int × Unit) × Unit) c21_L8 (b21_8 k g3) j ((), l_2, i2, most1, k_1, spans, n, ())
theorem L21_8_s (k : Nat) (g3 : Y5_5) (j : Nat) (l_2 : List Y5_0) (i2 : Int) (most1 : Int) (k_1 : Int) (spans : List (Int × Int)) (n : Int) : L21_8 k g3 (j + 1) l_2 i2 most1 k_1 spans n = l21_8 k g3 (L21_8 k g3 j) l_2 i2 most1 k_1 spans n := iter_succ _ _ _ _
noncomputable abbrev c21_L3 : Cut := ⟨[0, 1, 5, 6], [.cell Y5_15, .cell (.int .i64), .cell (.int .i64), .cell (.int .i64)], [], 52⟩
noncomputable def l21_3 (k : Nat) (g3 : Y5_5) (l_1 : List Y5_0) (i1 : Int) (most : Int) (k_ : Int) : Option Y5_2 :=
 (bif decide (k_ < (l_1.length : Int)) then
  (bif k_ == i1 then
   g3 l_1 i1 most (IntKind.i64.wrap (k_ + 1))
  else
   ix l_1 k_ <|
   (S22 k (rd l_1 k_ (0, 0, 0, [], [], []))).bind fun q0 =>
   L21_8 k g3 k l_1 i1 most k_ q0.1.2.2.1 0)
 else
  some ((most, ()), ()))
noncomputable def b21_3 (k : Nat) (g : ((Unit) × (List Y5_0) × Int × Int × Int × Unit) → Option Y5_2) (d : (Unit) × (List Y5_0) × Int × Int × Int × Unit) : Option Y5_2 := l21_3 k (fun l_1 i1 most k_ => g ((), l_1, i1, most, k_, ())) d.2.1 d.2.2.1 d.2.2.2.1 d.2.2.2.2.1
noncomputable def L21_3 (k : Nat) (j : Nat) (l_1 : List Y5_0) (i1 : Int) (most : Int) (k_ : Int) : Option Y5_2 := iter (R := (Int × Unit) × Unit) c21_L3 (b21_3 k) j ((), l_1, i1, most, k_, ())
theorem L21_3_s (k : Nat) (j : Nat) (l_1 : List Y5_0) (i1 : Int) (most : Int) (k_ : Int) : L21_3 k (j + 1) l_1 i1 most k_ = l21_3 k (L21_3 k j) l_1 i1 most k_ := iter_succ _ _ _ _
noncomputable def S21 (k : Nat) (l_ : List Y5_0) (i : Int) : Option Y5_2 :=
 L21_3 k k l_ i 0 0
noncomputable def E21 : Env := tab.env (lk [(22, F22), (44, F44)]) (hintL [])
theorem E21_ok : EnvOK Try.prog E21 := envOK_of tabOK _ _ (allFn_lk (l := [(22, F22), (44, F44)]) ⟨ok22, ok44, trivial⟩)
noncomputable def B21 (k : Nat) : Tbl (RD R21 × MD P21) := (.loop 3 c21_L3 (b21_3 k) (fun g => (fun (g3 : Y5_5) => (.loop 8 c21_L8 (b21_8 k g3) (fun g => .nil) .nil)) (fun l_1 i1 most k_ => g ((), l_1, i1, most, k_, ()))) .nil)
noncomputable def F21 : Fn := ⟨P21, R21, fun k x => S21 k x.1 x.2.1⟩
theorem ok21 : FnOK Try.prog 21 F21 := evalF_ok (E := E21) (T := B21) E21_ok mix Try.func21 rfl (by kernel_rfl) (by kernel_rfl) (fun k => by kernel_rfl) (fun k x => by kernel_rfl)
noncomputable abbrev P18 : List PT := [.val ⟨false, Y5_15, false⟩, .val ⟨false, (.int .i64), false⟩]
noncomputable abbrev R18 : List RT := [.val ⟨true, (.pair (.sl 2 (.int .i64)) (.pair (.int .i64) (.pair (.int .i64) (.sl 2 (.int .i64))))), true⟩]
noncomputable abbrev c18_L3 : Cut := ⟨[0, 1, 4, 5, 6], [.cell Y5_15, .cell (.int .i64), .box 32 [.nil, .cell (.int .i64), .cell (.int .i64), .nil], .box 32 [.own 2 (.int .i64), .cell (.int .i64), .cell (.int .i64), .own 2 (.int .i64)], .cell (.int .i64)], [], 50⟩
noncomputable def l18_3 (k : Nat) (g3 : (List Y5_0) → Int → Int → Int → (List Int) → Int → Int → (List Int) → Int → Option Y5_3) (l_1 : List Y5_0) (i1 : Int) (t4 : Int) (t4_1 : Int) (x : List Int) (x1 : Int) (x2 : Int) (x3 : List Int) (k_ : Int) : Option Y5_3 :=
 (bif decide (k_ ≤ i1) then
  ix l_1 k_ <|
  (S22 k (rd l_1 k_ (0, 0, 0, [], [], []))).bind fun q1 =>
  ap x ([q1.1.1] : List Int) 8 fun r2 =>
  ix l_1 k_ <|
  ap x3 ([(rd l_1 k_ (0, 0, 0, [], [], [])).2.1] : List Int) 8 fun r3 =>
  g3 l_1 i1 t4 t4_1 r2 (mx x1 q1.1.2.1) x2 r3 (IntKind.i64.wrap (k_ + 1))
 else
  some (((x, x1, x2, x3), ()), ()))
noncomputable def b18_3 (k : Nat) (g : ((Unit) × (List Y5_0) × Int × (Unit × Int × Int × Unit × Unit) × Y5_7 × Int × Unit) → Option Y5_3) (d : (Unit) × (List Y5_0) × Int × (Unit × Int × Int × Unit × Unit) × Y5_7 × Int × Unit) : Option Y5_3 := l18_3 k (fun l_1 i1 t4 t4_1 x x1 x2 x3 k_ => g ((), l_1, i1, ((), t4, t4_1, (), ()), (x, x1, x2, x3, ()), k_, ())) d.2.1 d.2.2.1 d.2.2.2.1.2.1 d.2.2.2.1.2.2.1 d.2.2.2.2.1.1 d.2.2.2.2.1.2.1 d.2.2.2.2.1.2.2.1 d.2.2.2.2.1.2.2.2.1 d.2.2.2.2.2.1
noncomputable def L18_3 (k : Nat) (j : Nat) (l_1 : List Y5_0) (i1 : Int) (t4 : Int) (t4_1 : Int) (x : List Int) (x1 : Int) (x2 : Int) (x3 : List Int) (k_ : Int) : Option Y5_3 := iter (R := (((List Int) × Int × Int × List Int) × Unit) × Unit) c18_L3 (b18_3 k) j ((), l_1, i1, ((), t4, t4_1, (), ()), (x, x1, x2, x3, ()), k_, ())
theorem L18_3_s (k : Nat) (j : Nat) (l_1 : List Y5_0) (i1 : Int) (t4 : Int) (t4_1 : Int) (x : List Int) (x1 : Int) (x2 : Int) (x3 : List Int) (k_ : Int) : L18_3 k (j + 1) l_1 i1 t4 t4_1 x x1 x2 x3 k_ = l18_3 k (L18_3 k j) l_1 i1 t4 t4_1 x x1 x2 x3 k_ := iter_succ _ _ _ _
noncomputable def S18 (k : Nat) (l_ : List Y5_0) (i : Int) : Option Y5_3 :=
 (S21 k l_ i).bind fun q0 =>
 L18_3 k k l_ i 0 0 ([] : List Int) 0 q0.1.1 ([] : List Int) 0
noncomputable def E18 : Env := tab.env (lk [(21, F21), (22, F22)]) (hintL [(13, 2)])
theorem E18_ok : EnvOK Try.prog E18 := envOK_of tabOK _ _ (allFn_lk (l := [(21, F21), (22, F22)]) ⟨ok21, ok22, trivial⟩)
noncomputable def B18 (k : Nat) : Tbl (RD R18 × MD P18) := (.loop 3 c18_L3 (b18_3 k) (fun g => .nil) .nil)
noncomputable def F18 : Fn := ⟨P18, R18, fun k x => S18 k x.1 x.2.1⟩
theorem ok18 : FnOK Try.prog 18 F18 := evalF_ok (E := E18) (T := B18) E18_ok mix Try.func18 rfl (by kernel_rfl) (by kernel_rfl) (fun k => by kernel_rfl) (fun k x => by kernel_rfl)
noncomputable abbrev P41 : List PT := [.val ⟨false, (.int .i64), false⟩, .val ⟨false, (.int .i64), false⟩]
noncomputable abbrev R41 : List RT := [.val ⟨false, (.int .i64), true⟩, .val ⟨false, .bool, true⟩]
noncomputable def S41 (k : Nat) (a : Int) (b : Int) : Option Y5_6 :=
 (bif decide (a > (IntKind.i64.wrap (9223372036854775807 - b))) then
  some ((0, false, ()), ())
 else
  some ((IntKind.i64.wrap (a + b), true, ()), ()))
noncomputable def E41 : Env := tab.env (lk []) (hintL [])
theorem E41_ok : EnvOK Try.prog E41 := envOK_of tabOK _ _ (fun f F h => by cases h)
noncomputable def B41 (k : Nat) : Tbl (RD R41 × MD P41) := .nil
noncomputable def F41 : Fn := ⟨P41, R41, fun k x => S41 k x.1 x.2.1⟩
theorem ok41 : FnOK Try.prog 41 F41 := evalF_ok (E := E41) (T := B41) E41_ok mix Try.func41 rfl (by kernel_rfl) (by kernel_rfl) (fun k => by kernel_rfl) (fun k x => by kernel_rfl)
noncomputable abbrev P42 : List PT := [.val ⟨false, (.int .i64), false⟩, .val ⟨false, (.int .i64), false⟩]
noncomputable abbrev R42 : List RT := [.val ⟨false, (.int .i64), true⟩, .val ⟨false, .bool, true⟩]
noncomputable def S42 (k : Nat) (a : Int) (b : Int) : Option Y5_6 :=
 (bif decide (b < 1) then
  some ((0, false, ()), ())
 else
  (bif decide (a < 0) then
   some ((0, false, ()), ())
  else
   nz b <|
   nz b <|
   (bif decide ((Int.tmod a b) > 0) then
    some ((IntKind.i64.wrap ((IntKind.i64.wrap (Int.tdiv a b)) + 1), true, ()), ())
   else
    some ((IntKind.i64.wrap (Int.tdiv a b), true, ()), ()))))
noncomputable def E42 : Env := tab.env (lk []) (hintL [])
theorem E42_ok : EnvOK Try.prog E42 := envOK_of tabOK _ _ (fun f F h => by cases h)
noncomputable def B42 (k : Nat) : Tbl (RD R42 × MD P42) := .nil
noncomputable def F42 : Fn := ⟨P42, R42, fun k x => S42 k x.1 x.2.1⟩
theorem ok42 : FnOK Try.prog 42 F42 := evalF_ok (E := E42) (T := B42) E42_ok mix Try.func42 rfl (by kernel_rfl) (by kernel_rfl) (fun k => by kernel_rfl) (fun k x => by kernel_rfl)
noncomputable abbrev P43 : List PT := [.val ⟨false, (.int .i64), false⟩, .val ⟨false, (.int .i64), false⟩]
noncomputable abbrev R43 : List RT := [.val ⟨false, (.int .i64), true⟩, .val ⟨false, .bool, true⟩]
noncomputable def S43 (k : Nat) (a : Int) (b : Int) : Option Y5_6 :=
 (bif decide (a > 0) then
  nz a <|
  (bif decide (b > (IntKind.i64.wrap (Int.tdiv 9223372036854775807 a))) then
   some ((0, false, ()), ())
  else
   some ((IntKind.i64.wrap (a * b), true, ()), ()))
 else
  some ((IntKind.i64.wrap (a * b), true, ()), ()))
noncomputable def E43 : Env := tab.env (lk []) (hintL [])
theorem E43_ok : EnvOK Try.prog E43 := envOK_of tabOK _ _ (fun f F h => by cases h)
noncomputable def B43 (k : Nat) : Tbl (RD R43 × MD P43) := .nil
noncomputable def F43 : Fn := ⟨P43, R43, fun k x => S43 k x.1 x.2.1⟩
theorem ok43 : FnOK Try.prog 43 F43 := evalF_ok (E := E43) (T := B43) E43_ok mix Try.func43 rfl (by kernel_rfl) (by kernel_rfl) (fun k => by kernel_rfl) (fun k x => by kernel_rfl)
noncomputable abbrev P19 : List PT := [.val ⟨true, (.pair (.sl 2 (.int .i64)) (.pair (.int .i64) (.pair (.int .i64) (.sl 2 (.int .i64))))), false⟩, .val ⟨false, (.int .i64), false⟩, .val ⟨false, (.int .i64), false⟩]
noncomputable abbrev R19 : List RT := [.val ⟨false, (.int .i64), true⟩, .val ⟨false, .bool, true⟩]
noncomputable abbrev c19_L9 : Cut := ⟨[2, 3, 8, 9, 10, 15], [.cell (.int .i64), .box 32 [.cell (.sl 2 (.int .i64)), .cell (.int .i64), .cell (.int .i64), .cell (.sl 2 (.int .i64))], .cell (.int .i64), .cell (.int .i64), .cell .bool, .cell (.int .i64)], [], 94⟩
noncomputable def l19_9 (k : Nat) (g9 : Int → (List Int) → Int → Int → (List Int) → Int → Int → Bool → Int → Option Y5_6) (r_2 : Int) (x5 : List Int) (x6 : Int) (x7 : Int) (x8 : List Int) (i1 : Int) (out1 : Int) (ok1 : Bool) (k_ : Int) : Option Y5_6 :=
 (bif decide (k_ < i1) then
  (bif ok1 then
   ix x8 k_ <|
   (S42 k r_2 (rd x8 k_ 0)).bind fun q4 =>
   ix x5 k_ <|
   (S43 k q4.1.1 (rd x5 k_ 0)).bind fun q5 =>
   (bif q5.1.2.1 then
    (S41 k out1 q5.1.1).bind fun q6 =>
    g9 r_2 x5 x6 x7 x8 i1 q6.1.1 q6.1.2.1 (IntKind.i64.wrap (k_ + 1))
   else
    g9 r_2 x5 x6 x7 x8 i1 out1 q5.1.2.1 (IntKind.i64.wrap (k_ + 1)))
  else
   some ((out1, ok1, ()), ()))
 else
  some ((out1, ok1, ()), ()))
noncomputable def b19_9 (k : Nat) (g : ((Unit) × Int × Y5_7 × Int × Int × Bool × Int × Unit) → Option Y5_6) (d : (Unit) × Int × Y5_7 × Int × Int × Bool × Int × Unit) : Option Y5_6 := l19_9 k (fun r_2 x5 x6 x7 x8 i1 out1 ok1 k_ => g ((), r_2, (x5, x6, x7, x8, ()), i1, out1, ok1, k_, ())) d.2.1 d.2.2.1.1 d.2.2.1.2.1 d.2.2.1.2.2.1 d.2.2.1.2.2.2.1 d.2.2.2.1 d.2.2.2.2.1 d.2.2.2.2.2.1 d.2.2.2.2.2.2.1
noncomputable def L19_9 (k : Nat) (j : Nat) (r_2 : Int) (x5 : List Int) (x6 : Int) (x7 : Int) (x8 : List Int) (i1 : Int) (out1 : Int) (ok1 : Bool) (k_ : Int) : Option Y5_6 := iter (R := (Int × Bool × Unit) × Unit) c19_L9 (b19_9 k) j ((), r_2, (x5, x6, x7, x8, ()), i1, out1, ok1, k_, ())
theorem L19_9_s (k : Nat) (j : Nat) (r_2 : Int) (x5 : List Int) (x6 : Int) (x7 : Int) (x8 : List Int) (i1 : Int) (out1 : Int) (ok1 : Bool) (k_ : Int) : L19_9 k (j + 1) r_2 x5 x6 x7 x8 i1 out1 ok1 k_ = l19_9 k (L19_9 k j) r_2 x5 x6 x7 x8 i1 out1 ok1 k_ := iter_succ _ _ _ _
noncomputable abbrev c19_J6 : Cut := ⟨[2, 3, 8, 9, 10, 13], [.cell (.int .i64), .box 32 [.cell (.sl 2 (.int .i64)), .cell (.int .i64), .cell (.int .i64), .cell (.sl 2 (.int .i64))], .cell (.int .i64), .cell (.int .i64), .cell .bool, .cell (.int .i64)], [], 94⟩
noncomputable def j19_6 (k : Nat) (r_1 : Int) (x1 : List Int) (x2 : Int) (x3 : Int) (x4 : List Int) (i : Int) (out : Int) (ok : Bool) (f : Int) : Option Y5_6 :=
 (bif ok then
  (S41 k out f).bind fun q3 =>
  L19_9 k k r_1 x1 x2 x3 x4 i q3.1.1 q3.1.2.1 0
 else
  L19_9 k k r_1 x1 x2 x3 x4 i out ok 0)
noncomputable def S19 (k : Nat) (x : (List Int) × Int × Int × List Int) (apart : Int) (r_ : Int) : Option Y5_6 :=
 ix x.1 (IntKind.i64.wrap ((x.1.length : Int) - 1)) <|
 (S41 k (rd x.1 (IntKind.i64.wrap ((x.1.length : Int) - 1)) 0) x.2.2.1).bind fun q0 =>
 (S42 k r_ apart).bind fun q1 =>
 (S43 k q1.1.1 x.2.1).bind fun q2 =>
 (bif q0.1.2.1 then
  j19_6 k r_ x.1 x.2.1 x.2.2.1 x.2.2.2 (IntKind.i64.wrap ((x.1.length : Int) - 1)) q0.1.1 q2.1.2.1 q2.1.1
 else
  j19_6 k r_ x.1 x.2.1 x.2.2.1 x.2.2.2 (IntKind.i64.wrap ((x.1.length : Int) - 1)) q0.1.1 false q2.1.1)
noncomputable def E19 : Env := tab.env (lk [(41, F41), (42, F42), (43, F43)]) (hintL [])
theorem E19_ok : EnvOK Try.prog E19 := envOK_of tabOK _ _ (allFn_lk (l := [(41, F41), (42, F42), (43, F43)]) ⟨ok41, ok42, ok43, trivial⟩)
noncomputable def B19 (k : Nat) : Tbl (RD R19 × MD P19) := (.loop 9 c19_L9 (b19_9 k) (fun g => .nil) (.join 6 c19_J6 (fun d => j19_6 k d.2.1 d.2.2.1.1 d.2.2.1.2.1 d.2.2.1.2.2.1 d.2.2.1.2.2.2.1 d.2.2.2.1 d.2.2.2.2.1 d.2.2.2.2.2.1 d.2.2.2.2.2.2.1) .nil))
noncomputable def F19 : Fn := ⟨P19, R19, fun k x => S19 k x.1 x.2.1 x.2.2.1⟩
theorem ok19 : FnOK Try.prog 19 F19 := evalF_ok (E := E19) (T := B19) E19_ok mix Try.func19 rfl (by kernel_rfl) (by kernel_rfl) (fun k => by kernel_rfl) (fun k x => by kernel_rfl)
noncomputable abbrev P17 : List PT := [.val ⟨false, Y5_15, false⟩, .val ⟨false, (.int .i64), false⟩, .val ⟨false, (.int .i64), false⟩]
noncomputable abbrev R17 : List RT := [.val ⟨false, (.int .i64), true⟩, .val ⟨false, (.int .i64), true⟩, .val ⟨false, (.int .i64), true⟩]
noncomputable abbrev c17_L7 : Cut := ⟨[0, 1, 2, 9, 10, 11], [.cell Y5_15, .cell (.int .i64), .cell (.int .i64), .box 32 [.own 2 (.int .i64), .cell (.int .i64), .cell (.int .i64), .own 2 (.int .i64)], .cell (.int .i64), .cell (.int .i64)], [], 66⟩
noncomputable def l17_7 (k : Nat) (g7 : (List Y5_0) → Int → Int → (List Int) → Int → Int → (List Int) → Int → Int → Option Y5_11) (l_1 : List Y5_0) (i1 : Int) (apart1 : Int) (x : List Int) (x1 : Int) (x2 : Int) (x3 : List Int) (r_ : Int) (n : Int) : Option Y5_11 :=
 (S19 k (x, x1, x2, x3) apart1 r_).bind fun q2 =>
 (bif !q2.1.2.1 then
  some ((0, 0, 13, ()), ())
 else
  ix l_1 i1 <|
  (bif decide (q2.1.1 > (rd l_1 i1 (0, 0, 0, [], [], [])).2.2.1) then
   some ((0, 0, 14, ()), ())
  else
   (bif q2.1.1 == r_ then
    some ((r_, n, 0, ()), ())
   else
    g7 l_1 i1 apart1 x x1 x2 x3 q2.1.1 (IntKind.i64.wrap (n + 1)))))
noncomputable def b17_7 (k : Nat) (g : ((Unit) × (List Y5_0) × Int × Int × Y5_7 × Int × Int × Unit) → Option Y5_11) (d : (Unit) × (List Y5_0) × Int × Int × Y5_7 × Int × Int × Unit) : Option Y5_11 := l17_7 k (fun l_1 i1 apart1 x x1 x2 x3 r_ n => g ((), l_1, i1, apart1, (x, x1, x2, x3, ()), r_, n, ())) d.2.1 d.2.2.1 d.2.2.2.1 d.2.2.2.2.1.1 d.2.2.2.2.1.2.1 d.2.2.2.2.1.2.2.1 d.2.2.2.2.1.2.2.2.1 d.2.2.2.2.2.1 d.2.2.2.2.2.2.1
noncomputable def L17_7 (k : Nat) (j : Nat) (l_1 : List Y5_0) (i1 : Int) (apart1 : Int) (x : List Int) (x1 : Int) (x2 : Int) (x3 : List Int) (r_ : Int) (n : Int) : Option Y5_11 := iter (R := (Int × Int × Int × Unit) × Unit) c17_L7 (b17_7 k) j ((), l_1, i1, apart1, (x, x1, x2, x3, ()), r_, n, ())
theorem L17_7_s (k : Nat) (j : Nat) (l_1 : List Y5_0) (i1 : Int) (apart1 : Int) (x : List Int) (x1 : Int) (x2 : Int) (x3 : List Int) (r_ : Int) (n : Int) : L17_7 k (j + 1) l_1 i1 apart1 x x1 x2 x3 r_ n = l17_7 k (L17_7 k j) l_1 i1 apart1 x x1 x2 x3 r_ n := iter_succ _ _ _ _
noncomputable def S17 (k : Nat) (l_ : List Y5_0) (i : Int) (apart : Int) : Option Y5_11 :=
 (S40 k l_).bind fun q0 =>
 (bif !q0.1.1 then
  some ((0, 0, 1, ()), ())
 else
  (bif decide (i < 0) then
   some ((0, 0, 1, ()), ())
  else
   (bif decide (i ≥ (l_.length : Int)) then
    some ((0, 0, 1, ()), ())
   else
    (bif decide (apart < 1) then
     some ((0, 0, 1, ()), ())
    else
     (S18 k l_ i).bind fun q1 =>
     ix q1.1.1.1 i <|
     L17_7 k k l_ i apart q1.1.1.1 q1.1.1.2.1 q1.1.1.2.2.1 q1.1.1.2.2.2 (IntKind.i64.wrap ((rd q1.1.1.1 i 0) + q1.1.1.2.2.1)) 1))))
noncomputable def E17 : Env := tab.env (lk [(18, F18), (19, F19), (40, F40)]) (hintL [])
theorem E17_ok : EnvOK Try.prog E17 := envOK_of tabOK _ _ (allFn_lk (l := [(18, F18), (19, F19), (40, F40)]) ⟨ok18, ok19, ok40, trivial⟩)
noncomputable def B17 (k : Nat) : Tbl (RD R17 × MD P17) := (.loop 7 c17_L7 (b17_7 k) (fun g => .nil) .nil)
noncomputable def F17 : Fn := ⟨P17, R17, fun k x => S17 k x.1 x.2.1 x.2.2.1⟩
theorem ok17 : FnOK Try.prog 17 F17 := evalF_ok (E := E17) (T := B17) E17_ok mix Try.func17 rfl (by kernel_rfl) (by kernel_rfl) (fun k => by kernel_rfl) (fun k x => by kernel_rfl)
noncomputable abbrev P27 : List PT := [.val ⟨false, Y5_15, false⟩, .val ⟨false, (.int .i64), false⟩]
noncomputable abbrev R27 : List RT := [.val ⟨false, (.sl 62 (arrT 5 (.int .i64))), true⟩, .val ⟨false, (.int .i64), true⟩]
noncomputable abbrev c27_L5 : Cut := ⟨[0, 1, 6, 7], [.cell Y5_15, .cell (.int .i64), .own 62 (arrT 5 (.int .i64)), .cell (.int .i64)], [], 65⟩
noncomputable def l27_5 (k : Nat) (g5 : (List Y5_0) → Int → Y5_14 → Int → Option Y5_9) (l_1 : List Y5_0) (apart1 : Int) (out : List (PN Int 5)) (i : Int) : Option Y5_9 :=
 (bif decide (i < (l_1.length : Int)) then
  (S17 k l_1 i apart1).bind fun q1 =>
  (bif q1.1.2.2.1 != 0 then
   some (([], q1.1.2.2.1, ()), ())
  else
   ix l_1 i <|
   (S22 k (rd l_1 i (0, 0, 0, [], [], []))).bind fun q2 =>
   (S21 k l_1 i).bind fun q3 =>
   ix l_1 i <|
   ap out ([(q2.1.1, q2.1.2.1, q3.1.1, q1.1.1, IntKind.i64.wrap ((rd l_1 i (0, 0, 0, [], [], [])).2.2.1 - q1.1.1))] : List (PN Int 5)) 40 fun r4 =>
   g5 l_1 apart1 r4 (IntKind.i64.wrap (i + 1)))
 else
  some ((out, 0, ()), ()))
noncomputable def b27_5 (k : Nat) (g : ((Unit) × (List Y5_0) × Int × Y5_14 × Int × Unit) → Option Y5_9) (d : (Unit) × (List Y5_0) × Int × Y5_14 × Int × Unit) : Option Y5_9 := l27_5 k (fun l_1 apart1 out i => g ((), l_1, apart1, out, i, ())) d.2.1 d.2.2.1 d.2.2.2.1 d.2.2.2.2.1
noncomputable def L27_5 (k : Nat) (j : Nat) (l_1 : List Y5_0) (apart1 : Int) (out : List (PN Int 5)) (i : Int) : Option Y5_9 := iter (R := (Y5_14 × Int × Unit) × Unit) c27_L5 (b27_5 k) j ((), l_1, apart1, out, i, ())
theorem L27_5_s (k : Nat) (j : Nat) (l_1 : List Y5_0) (apart1 : Int) (out : List (PN Int 5)) (i : Int) : L27_5 k (j + 1) l_1 apart1 out i = l27_5 k (L27_5 k j) l_1 apart1 out i := iter_succ _ _ _ _
noncomputable def S27 (k : Nat) (l_ : List Y5_0) (apart : Int) : Option Y5_9 :=
 (S40 k l_).bind fun q0 =>
 (bif !q0.1.1 then
  some (([], 1, ()), ())
 else
  (bif decide (apart < 1) then
   some (([], 1, ()), ())
  else
   L27_5 k k l_ apart ([] : List (PN Int 5)) 0))
noncomputable def E27 : Env := tab.env (lk [(17, F17), (21, F21), (22, F22), (40, F40)]) (hintL [(6, 2)])
theorem E27_ok : EnvOK Try.prog E27 := envOK_of tabOK _ _ (allFn_lk (l := [(17, F17), (21, F21), (22, F22), (40, F40)]) ⟨ok17, ok21, ok22, ok40, trivial⟩)
noncomputable def B27 (k : Nat) : Tbl (RD R27 × MD P27) := (.loop 5 c27_L5 (b27_5 k) (fun g => .nil) .nil)
noncomputable def F27 : Fn := ⟨P27, R27, fun k x => S27 k x.1 x.2.1⟩
theorem ok27 : FnOK Try.prog 27 F27 := evalF_ok (E := E27) (T := B27) E27_ok mix Try.func27 rfl (by kernel_rfl) (by kernel_rfl) (fun k => by kernel_rfl) (fun k x => by kernel_rfl)
noncomputable abbrev P28 : List PT := [.val ⟨false, (.sl 62 (arrT 5 (.int .i64))), false⟩, .val ⟨false, (.sl 62 (arrT 5 (.int .i64))), false⟩]
noncomputable abbrev R28 : List RT := [.val ⟨false, .bool, true⟩]
noncomputable abbrev c28_L4 : Cut := ⟨[0, 1, 5], [.cell (.sl 62 (arrT 5 (.int .i64))), .cell (.sl 62 (arrT 5 (.int .i64))), .cell (.int .i64)], [], 26⟩
noncomputable def l28_4 (k : Nat) (g4 : Y5_14 → Y5_14 → Int → Option Y5_8) (a1 : List (PN Int 5)) (b1 : List (PN Int 5)) (i : Int) : Option Y5_8 :=
 (bif decide (i < (a1.length : Int)) then
  ix a1 i <|
  ix b1 i <|
  (bif !(beqD (arrT 5 (.int .i64)) (rd a1 i (prep (α := Int) 5 0)) (rd b1 i (prep (α := Int) 5 0))) then
   some ((false, ()), ())
  else
   g4 a1 b1 (IntKind.i64.wrap (i + 1)))
 else
  some ((true, ()), ()))
noncomputable def b28_4 (k : Nat) (g : ((Unit) × Y5_14 × Y5_14 × Int × Unit) → Option Y5_8) (d : (Unit) × Y5_14 × Y5_14 × Int × Unit) : Option Y5_8 := l28_4 k (fun a1 b1 i => g ((), a1, b1, i, ())) d.2.1 d.2.2.1 d.2.2.2.1
noncomputable def L28_4 (k : Nat) (j : Nat) (a1 : List (PN Int 5)) (b1 : List (PN Int 5)) (i : Int) : Option Y5_8 := iter (R := (Bool × Unit) × Unit) c28_L4 (b28_4 k) j ((), a1, b1, i, ())
theorem L28_4_s (k : Nat) (j : Nat) (a1 : List (PN Int 5)) (b1 : List (PN Int 5)) (i : Int) : L28_4 k (j + 1) a1 b1 i = l28_4 k (L28_4 k j) a1 b1 i := iter_succ _ _ _ _
noncomputable def S28 (k : Nat) (a : List (PN Int 5)) (b : List (PN Int 5)) : Option Y5_8 :=
 (bif (a.length : Int) != (b.length : Int) then
  some ((false, ()), ())
 else
  L28_4 k k a b 0)
noncomputable def E28 : Env := tab.env (lk []) (hintL [])
theorem E28_ok : EnvOK Try.prog E28 := envOK_of tabOK _ _ (fun f F h => by cases h)
noncomputable def B28 (k : Nat) : Tbl (RD R28 × MD P28) := (.loop 4 c28_L4 (b28_4 k) (fun g => .nil) .nil)
noncomputable def F28 : Fn := ⟨P28, R28, fun k x => S28 k x.1 x.2.1⟩
theorem ok28 : FnOK Try.prog 28 F28 := evalF_ok (E := E28) (T := B28) E28_ok mix Try.func28 rfl (by kernel_rfl) (by kernel_rfl) (fun k => by kernel_rfl) (fun k x => by kernel_rfl)
end Go.Proofs.Ytinopkpnlibopaa.Ab
