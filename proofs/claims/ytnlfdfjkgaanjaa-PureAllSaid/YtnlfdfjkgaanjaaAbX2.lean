import Derived.Test.YtnlfdfjkgaanjaaAbX1
/- Contracts, printed by this session's own program gen.py. -/
set_option linter.unusedVariables false
set_option linter.unusedSimpArgs false
set_option maxRecDepth 100000
namespace Go.Proofs.Ytnlfdfjkgaanjaa.Ab
open Go.RowKit Go.Proofs.YtnlfdfjkgaanjaaW.PrintWords
abbrev Y2_0 : Type := Int × Int × Int × Int
abbrev Y2_1 : Type := Int × Int × Int × Bool
abbrev Y2_2 : Ty := .pair (.int .i64) (.pair (.int .i64) (.pair (.int .i64) (.int .i64)))
abbrev Y2_3 : Type := ((List Y2_0) × Unit) × ((List Int) × Int × Unit) × Unit
abbrev Y2_4 : Type := (List Y2_0) → (List Int) → (List Int) → (List Y2_1) → Int → Option (((List Int) × Bool × Unit) × Unit)
abbrev Y2_5 : Type := (Bool × Unit) × Unit
abbrev Y2_6 : Ty := .pair (.int .i64) (.pair (.int .i64) (.pair (.int .i64) .bool))
abbrev Y2_7 : Type := ((List Int) × Bool × Unit) × Unit
abbrev Y2_8 : Type := (List Y2_0) → (List Y2_1) → Int → Option Y2_5
abbrev Y2_9 : Type := (List Y2_0) → (List Y2_1) → (List Int) → Int → Option Y2_5
abbrev Y2_10 : Type := (List Int) → Int → Int → (List Y2_0) → Int → Option Y2_3
abbrev Y2_11 : Type := (List Int) × Int × Unit
abbrev Y2_12 : Type := (List Y2_0) → (List Y2_1) → Int → Int → Option Y2_5
abbrev Y2_13 : Ty := .sl 34 Y2_2
abbrev Y2_14 : Type := ((List Y2_1) × Unit) × Unit
noncomputable abbrev P34 : List PT := [.mbox 95 [.cell (.sl 5 (.int .u8)), .cell (.int .i64)], .val ⟨false, (.int .i64), false⟩, .val ⟨false, (.int .i64), false⟩]
noncomputable abbrev R34 : List RT := [.val ⟨false, Y2_13, true⟩]
noncomputable abbrev c34_L3 : Cut := ⟨[0, 2, 7, 8], [.pin false 0, .cell (.int .i64), .own 34 Y2_2, .cell (.int .i64)], [.mbox 95 [.cell (.sl 5 (.int .u8)), .cell (.int .i64)]], 47⟩
noncomputable def l34_3 (k : Nat) (g3 : Y2_10) (p2 : List Int) (p3 : Int) (locks1 : Int) (l_ : List Y2_0) (i : Int) : Option Y2_3 :=
 (bif decide (i > 0) then
  (bif decide (locks1 > 0) then
   (S33 k p2 p3 4).bind fun q1 =>
   (bif q1.1.1 == 0 then
    (S33 k q1.2.1.1 q1.2.1.2.1 locks1).bind fun q2 =>
    ap l_ ([(9, q2.1.1, 0, 0)] : List Y2_0) 32 fun r3 =>
    (S35 k q2.2.1.1 q2.2.1.2.1).bind fun q4 =>
    ap r3 ([q4.1.1] : List Y2_0) 32 fun r5 =>
    ap r5 ([(10, q2.1.1, 0, 0)] : List Y2_0) 32 fun r6 =>
    g3 q4.2.1.1 q4.2.1.2.1 locks1 r6 (IntKind.i64.wrap (i - 1))
   else
    (S35 k q1.2.1.1 q1.2.1.2.1).bind fun q7 =>
    ap l_ ([q7.1.1] : List Y2_0) 32 fun r8 =>
    g3 q7.2.1.1 q7.2.1.2.1 locks1 r8 (IntKind.i64.wrap (i - 1)))
  else
   (S35 k p2 p3).bind fun q9 =>
   ap l_ ([q9.1.1] : List Y2_0) 32 fun r10 =>
   g3 q9.2.1.1 q9.2.1.2.1 locks1 r10 (IntKind.i64.wrap (i - 1)))
 else
  some ((l_, ()), (p2, p3, ()), ()))
noncomputable def b34_3 (k : Nat) (g : ((Y2_11 × Unit) × Unit × Int × (List Y2_0) × Int × Unit) → Option Y2_3) (d : (Y2_11 × Unit) × Unit × Int × (List Y2_0) × Int × Unit) : Option Y2_3 := l34_3 k (fun p2 p3 locks1 l_ i => g (((p2, p3, ()), ()), (), locks1, l_, i, ())) d.1.1.1 d.1.1.2.1 d.2.2.1 d.2.2.2.1 d.2.2.2.2.1
noncomputable def L34_3 (k : Nat) (j : Nat) (p2 : List Int) (p3 : Int) (locks1 : Int) (l_ : List Y2_0) (i : Int) : Option Y2_3 := iter (R := ((List Y2_0) × Unit) × Y2_11 × Unit) c34_L3 (b34_3 k) j (((p2, p3, ()), ()), (), locks1, l_, i, ())
theorem L34_3_s (k : Nat) (j : Nat) (p2 : List Int) (p3 : Int) (locks1 : Int) (l_ : List Y2_0) (i : Int) : L34_3 k (j + 1) p2 p3 locks1 l_ i = l34_3 k (L34_3 k j) p2 p3 locks1 l_ i := iter_succ _ _ _ _
noncomputable def S34 (k : Nat) (p : List Int) (p1 : Int) (most : Int) (locks : Int) : Option Y2_3 :=
 (S33 k p p1 most).bind fun q0 =>
 L34_3 k k q0.2.1.1 q0.2.1.2.1 locks ([] : List Y2_0) (IntKind.i64.wrap (q0.1.1 + 1))
noncomputable def E34 : Env := tab.env (lk [(33, F33), (35, F35)]) (hintL [(7, 2)])
theorem E34_ok : EnvOK Try.prog E34 := envOK_of tabOK _ _ (allFn_lk (l := [(33, F33), (35, F35)]) ⟨ok33, ok35, trivial⟩)
noncomputable def B34 (k : Nat) : Tbl (RD R34 × MD P34) := (.loop 3 c34_L3 (b34_3 k) (fun g => .nil) .nil)
noncomputable def F34 : Fn := ⟨P34, R34, fun k x => S34 k x.1.1 x.1.2.1 x.2.1 x.2.2.1⟩
theorem ok34 : FnOK Try.prog 34 F34 := evalF_ok (E := E34) (T := B34) E34_ok mix Try.func34 rfl (by kernel_rfl) (by kernel_rfl) (fun k => by kernel_rfl) (fun k x => by kernel_rfl)
noncomputable abbrev P14 : List PT := [.mbox 95 [.cell (.sl 5 (.int .u8)), .cell (.int .i64)], .val ⟨false, (.int .i64), false⟩]
noncomputable abbrev R14 : List RT := [.val ⟨false, Y2_13, true⟩]
noncomputable abbrev c14_J16 : Cut := ⟨[0, 1, 5, 6, 7], [.pin false 0, .cell (.int .i64), .own 34 Y2_2, .cell (.int .i64), .own 34 Y2_2], [.mbox 95 [.cell (.sl 5 (.int .u8)), .cell (.int .i64)]], 66⟩
noncomputable def j14_16 (k : Nat) (g3 : Y2_10) (p4 : List Int) (p5 : Int) (locks2 : Int) (l_1 : List Y2_0) (i1 : Int) (x : List Y2_0) : Option Y2_3 :=
 (bif decide ((IntKind.i64.wrap ((l_1.length : Int) + (x.length : Int))) < 23) then
  ap l_1 x 32 fun r9 =>
  g3 p4 p5 locks2 r9 (IntKind.i64.wrap (i1 - 1))
 else
  g3 p4 p5 locks2 l_1 (IntKind.i64.wrap (i1 - 1)))
noncomputable abbrev c14_L3 : Cut := ⟨[0, 1, 5, 6], [.pin false 0, .cell (.int .i64), .own 34 Y2_2, .cell (.int .i64)], [.mbox 95 [.cell (.sl 5 (.int .u8)), .cell (.int .i64)]], 66⟩
noncomputable def l14_3 (k : Nat) (g3 : Y2_10) (p2 : List Int) (p3 : Int) (locks1 : Int) (l_ : List Y2_0) (i : Int) : Option Y2_3 :=
 (bif decide (i > 0) then
  (S33 k p2 p3 5).bind fun q1 =>
  (bif q1.1.1 == 0 then
   (S34 k q1.2.1.1 q1.2.1.2.1 2 locks1).bind fun q2 =>
   (S33 k q2.2.1.1 q2.2.1.2.1 3).bind fun q3 =>
   ap ([(8, 0, (q2.1.1.length : Int), IntKind.i64.wrap (1 + q3.1.1))] : List Y2_0) q2.1.1 32 fun r4 =>
   j14_16 k g3 q3.2.1.1 q3.2.1.2.1 locks1 l_ i r4
  else
   (bif q1.1.1 == 1 then
    (S34 k q1.2.1.1 q1.2.1.2.1 2 locks1).bind fun q5 =>
    (S33 k q5.2.1.1 q5.2.1.2.1 3).bind fun q6 =>
    ap ([(7, q6.1.1, 0, (q5.1.1.length : Int))] : List Y2_0) q5.1.1 32 fun r7 =>
    j14_16 k g3 q6.2.1.1 q6.2.1.2.1 locks1 l_ i r7
   else
    (bif q1.1.1 == 2 then
     j14_16 k g3 q1.2.1.1 q1.2.1.2.1 locks1 l_ i ([(11, 0, 0, 0)] : List Y2_0)
    else
     (S34 k q1.2.1.1 q1.2.1.2.1 2 locks1).bind fun q8 =>
     j14_16 k g3 q8.2.1.1 q8.2.1.2.1 locks1 l_ i q8.1.1)))
 else
  ap l_ ([(0, 0, 0, 0)] : List Y2_0) 32 fun r10 =>
  some ((r10, ()), (p2, p3, ()), ()))
noncomputable def b14_3 (k : Nat) (g : ((Y2_11 × Unit) × Unit × Int × (List Y2_0) × Int × Unit) → Option Y2_3) (d : (Y2_11 × Unit) × Unit × Int × (List Y2_0) × Int × Unit) : Option Y2_3 := l14_3 k (fun p2 p3 locks1 l_ i => g (((p2, p3, ()), ()), (), locks1, l_, i, ())) d.1.1.1 d.1.1.2.1 d.2.2.1 d.2.2.2.1 d.2.2.2.2.1
noncomputable def L14_3 (k : Nat) (j : Nat) (p2 : List Int) (p3 : Int) (locks1 : Int) (l_ : List Y2_0) (i : Int) : Option Y2_3 := iter (R := ((List Y2_0) × Unit) × Y2_11 × Unit) c14_L3 (b14_3 k) j (((p2, p3, ()), ()), (), locks1, l_, i, ())
theorem L14_3_s (k : Nat) (j : Nat) (p2 : List Int) (p3 : Int) (locks1 : Int) (l_ : List Y2_0) (i : Int) : L14_3 k (j + 1) p2 p3 locks1 l_ i = l14_3 k (L14_3 k j) p2 p3 locks1 l_ i := iter_succ _ _ _ _
noncomputable def S14 (k : Nat) (p : List Int) (p1 : Int) (locks : Int) : Option Y2_3 :=
 (S33 k p p1 4).bind fun q0 =>
 L14_3 k k q0.2.1.1 q0.2.1.2.1 locks ([] : List Y2_0) (IntKind.i64.wrap (q0.1.1 + 1))
noncomputable def E14 : Env := tab.env (lk [(33, F33), (34, F34)]) (hintL [(5, 2)])
theorem E14_ok : EnvOK Try.prog E14 := envOK_of tabOK _ _ (allFn_lk (l := [(33, F33), (34, F34)]) ⟨ok33, ok34, trivial⟩)
noncomputable def B14 (k : Nat) : Tbl (RD R14 × MD P14) := (.loop 3 c14_L3 (b14_3 k) (fun g => (fun (g3 : Y2_10) => (.join 16 c14_J16 (fun d => j14_16 k g3 d.1.1.1 d.1.1.2.1 d.2.2.1 d.2.2.2.1 d.2.2.2.2.1 d.2.2.2.2.2.1) .nil)) (fun p2 p3 locks1 l_ i => g (((p2, p3, ()), ()), (), locks1, l_, i, ()))) .nil)
noncomputable def F14 : Fn := ⟨P14, R14, fun k x => S14 k x.1.1 x.1.2.1 x.2.1⟩
theorem ok14 : FnOK Try.prog 14 F14 := evalF_ok (E := E14) (T := B14) E14_ok mix Try.func14 rfl (by kernel_rfl) (by kernel_rfl) (fun k => by kernel_rfl) (fun k x => by kernel_rfl)
noncomputable abbrev P15 : List PT := [.mbox 95 [.cell (.sl 5 (.int .u8)), .cell (.int .i64)]]
noncomputable abbrev R15 : List RT := [.val ⟨false, Y2_13, true⟩]
noncomputable abbrev c15_L3 : Cut := ⟨[0, 3, 4], [.pin false 0, .own 34 Y2_2, .cell (.int .i64)], [.mbox 95 [.cell (.sl 5 (.int .u8)), .cell (.int .i64)]], 56⟩
noncomputable def l15_3 (k : Nat) (g3 : (List Int) → Int → (List Y2_0) → Int → Option Y2_3) (p2 : List Int) (p3 : Int) (l_ : List Y2_0) (i : Int) : Option Y2_3 :=
 (bif decide (i > 0) then
  (S35 k p2 p3).bind fun q1 =>
  (S33 k q1.2.1.1 q1.2.1.2.1 9).bind fun q2 =>
  (bif q2.1.1 == 0 then
   (S33 k q2.2.1.1 q2.2.1.2.1 3).bind fun q3 =>
   (S33 k q3.2.1.1 q3.2.1.2.1 5).bind fun q4 =>
   ap l_ ([(7, q3.1.1, 0, IntKind.i64.wrap (1 + q4.1.1))] : List Y2_0) 32 fun r5 =>
   g3 q4.2.1.1 q4.2.1.2.1 r5 (IntKind.i64.wrap (i - 1))
  else
   (bif q2.1.1 == 1 then
    (S33 k q2.2.1.1 q2.2.1.2.1 5).bind fun q6 =>
    (S33 k q6.2.1.1 q6.2.1.2.1 3).bind fun q7 =>
    ap l_ ([(8, 0, IntKind.i64.wrap (1 + q6.1.1), IntKind.i64.wrap (1 + q7.1.1))] : List Y2_0) 32 fun r8 =>
    g3 q7.2.1.1 q7.2.1.2.1 r8 (IntKind.i64.wrap (i - 1))
   else
    (bif q2.1.1 == 2 then
     (S33 k q2.2.1.1 q2.2.1.2.1 2).bind fun q9 =>
     ap l_ ([(9, q9.1.1, 0, 0)] : List Y2_0) 32 fun r10 =>
     g3 q9.2.1.1 q9.2.1.2.1 r10 (IntKind.i64.wrap (i - 1))
    else
     (bif q2.1.1 == 3 then
      (S33 k q2.2.1.1 q2.2.1.2.1 2).bind fun q11 =>
      ap l_ ([(9, q11.1.1, 0, 0)] : List Y2_0) 32 fun r12 =>
      g3 q11.2.1.1 q11.2.1.2.1 r12 (IntKind.i64.wrap (i - 1))
     else
      (bif q2.1.1 == 4 then
       (S33 k q2.2.1.1 q2.2.1.2.1 2).bind fun q13 =>
       ap l_ ([(10, q13.1.1, 0, 0)] : List Y2_0) 32 fun r14 =>
       g3 q13.2.1.1 q13.2.1.2.1 r14 (IntKind.i64.wrap (i - 1))
      else
       (bif q2.1.1 == 5 then
        (S33 k q2.2.1.1 q2.2.1.2.1 2).bind fun q15 =>
        ap l_ ([(10, q15.1.1, 0, 0)] : List Y2_0) 32 fun r16 =>
        g3 q15.2.1.1 q15.2.1.2.1 r16 (IntKind.i64.wrap (i - 1))
       else
        (bif q2.1.1 == 6 then
         ap l_ ([(11, 0, 0, 0)] : List Y2_0) 32 fun r17 =>
         g3 q2.2.1.1 q2.2.1.2.1 r17 (IntKind.i64.wrap (i - 1))
        else
         ap l_ ([q1.1.1] : List Y2_0) 32 fun r18 =>
         g3 q2.2.1.1 q2.2.1.2.1 r18 (IntKind.i64.wrap (i - 1)))))))))
 else
  ap l_ ([(0, 0, 0, 0)] : List Y2_0) 32 fun r19 =>
  some ((r19, ()), (p2, p3, ()), ()))
noncomputable def b15_3 (k : Nat) (g : ((Y2_11 × Unit) × Unit × (List Y2_0) × Int × Unit) → Option Y2_3) (d : (Y2_11 × Unit) × Unit × (List Y2_0) × Int × Unit) : Option Y2_3 := l15_3 k (fun p2 p3 l_ i => g (((p2, p3, ()), ()), (), l_, i, ())) d.1.1.1 d.1.1.2.1 d.2.2.1 d.2.2.2.1
noncomputable def L15_3 (k : Nat) (j : Nat) (p2 : List Int) (p3 : Int) (l_ : List Y2_0) (i : Int) : Option Y2_3 := iter (R := ((List Y2_0) × Unit) × Y2_11 × Unit) c15_L3 (b15_3 k) j (((p2, p3, ()), ()), (), l_, i, ())
theorem L15_3_s (k : Nat) (j : Nat) (p2 : List Int) (p3 : Int) (l_ : List Y2_0) (i : Int) : L15_3 k (j + 1) p2 p3 l_ i = l15_3 k (L15_3 k j) p2 p3 l_ i := iter_succ _ _ _ _
noncomputable def S15 (k : Nat) (p : List Int) (p1 : Int) : Option Y2_3 :=
 (S33 k p p1 12).bind fun q0 =>
 L15_3 k k q0.2.1.1 q0.2.1.2.1 ([] : List Y2_0) q0.1.1
noncomputable def E15 : Env := tab.env (lk [(33, F33), (35, F35)]) (hintL [(3, 2)])
theorem E15_ok : EnvOK Try.prog E15 := envOK_of tabOK _ _ (allFn_lk (l := [(33, F33), (35, F35)]) ⟨ok33, ok35, trivial⟩)
noncomputable def B15 (k : Nat) : Tbl (RD R15 × MD P15) := (.loop 3 c15_L3 (b15_3 k) (fun g => .nil) .nil)
noncomputable def F15 : Fn := ⟨P15, R15, fun k x => S15 k x.1.1 x.1.2.1⟩
theorem ok15 : FnOK Try.prog 15 F15 := evalF_ok (E := E15) (T := B15) E15_ok mix Try.func15 rfl (by kernel_rfl) (by kernel_rfl) (fun k => by kernel_rfl) (fun k x => by kernel_rfl)
noncomputable abbrev P100 : List PT := [.val ⟨true, (.int .i64), false⟩, .val ⟨false, (.int .i64), false⟩]
noncomputable abbrev R100 : List RT := [.val ⟨false, .bool, true⟩]
noncomputable def S100 (k : Nat) (f : Int) (a : Int) : Option Y2_5 :=
 (bif decide (a ≥ 0) then
  some ((decide (a < f), ()), ())
 else
  some ((false, ()), ()))
noncomputable def E100 : Env := tab.env (lk []) (hintL [])
theorem E100_ok : EnvOK Try.prog E100 := envOK_of tabOK _ _ (fun f F h => by cases h)
noncomputable def B100 (k : Nat) : Tbl (RD R100 × MD P100) := .nil
noncomputable def F100 : Fn := ⟨P100, R100, fun k x => S100 k x.1 x.2.1⟩
theorem ok100 : FnOK Try.prog 100 F100 := evalF_ok (E := E100) (T := B100) E100_ok mix Try.func100 rfl (by kernel_rfl) (by kernel_rfl) (fun k => by kernel_rfl) (fun k x => by kernel_rfl)
noncomputable abbrev P72 : List PT := [.val ⟨true, Y2_2, false⟩]
noncomputable abbrev R72 : List RT := [.val ⟨false, .bool, true⟩]
noncomputable def S72 (k : Nat) (i : Int × Int × Int × Int) : Option Y2_5 :=
 (bif i.1 == 0 then
  (bif i.2.1 == 0 then
   (bif i.2.2.1 == 0 then
    some ((i.2.2.2 == 0, ()), ())
   else
    some ((false, ()), ()))
  else
   some ((false, ()), ()))
 else
  (bif i.1 == 11 then
   (bif i.2.1 == 0 then
    (bif i.2.2.1 == 0 then
     some ((i.2.2.2 == 0, ()), ())
    else
     some ((false, ()), ()))
   else
    some ((false, ()), ()))
  else
   (bif i.1 == 1 then
    (S100 k 8 i.2.1).bind fun q0 =>
    (bif q0.1.1 then
     (bif i.2.2.1 == 0 then
      (bif decide (i.2.2.2 ≥ (-2147483648)) then
       some ((decide (i.2.2.2 < 2147483648), ()), ())
      else
       some ((false, ()), ()))
     else
      some ((false, ()), ()))
    else
     some ((false, ()), ()))
   else
    (bif i.1 == 2 then
     (S100 k 8 i.2.1).bind fun q1 =>
     (bif q1.1.1 then
      (S100 k 8 i.2.2.1).bind fun q2 =>
      (bif q2.1.1 then
       some ((i.2.2.2 == 0, ()), ())
      else
       some ((false, ()), ()))
     else
      some ((false, ()), ()))
    else
     (bif i.1 == 3 then
      (S100 k 8 i.2.1).bind fun q3 =>
      (bif q3.1.1 then
       (S100 k 8 i.2.2.1).bind fun q4 =>
       (bif q4.1.1 then
        some ((i.2.2.2 == 0, ()), ())
       else
        some ((false, ()), ()))
      else
       some ((false, ()), ()))
     else
      (bif i.1 == 4 then
       (S100 k 8 i.2.1).bind fun q5 =>
       (bif q5.1.1 then
        (S100 k 8 i.2.2.1).bind fun q6 =>
        (bif q6.1.1 then
         some ((i.2.2.2 == 0, ()), ())
        else
         some ((false, ()), ()))
       else
        some ((false, ()), ()))
      else
       (bif i.1 == 5 then
        (S100 k 8 i.2.1).bind fun q7 =>
        (bif q7.1.1 then
         (bif i.2.2.1 == 0 then
          (bif decide (i.2.2.2 ≥ (-63)) then
           some ((decide (i.2.2.2 ≤ 63), ()), ())
          else
           some ((false, ()), ()))
         else
          some ((false, ()), ()))
        else
         some ((false, ()), ()))
       else
        (bif i.1 == 6 then
         (S100 k 8 i.2.1).bind fun q8 =>
         (bif q8.1.1 then
          (bif i.2.2.1 == 0 then
           (bif decide (i.2.2.2 ≥ 1) then
            some ((decide (i.2.2.2 ≤ 64), ()), ())
           else
            some ((false, ()), ()))
          else
           some ((false, ()), ()))
         else
          some ((false, ()), ()))
        else
         (bif i.1 == 7 then
          (S100 k 8 i.2.1).bind fun q9 =>
          (bif q9.1.1 then
           (bif i.2.2.1 == 0 then
            (bif decide (i.2.2.2 ≥ 1) then
             some ((decide (i.2.2.2 ≤ 24), ()), ())
            else
             some ((false, ()), ()))
           else
            some ((false, ()), ()))
          else
           some ((false, ()), ()))
         else
          (bif i.1 == 8 then
           (bif i.2.1 == 0 then
            (bif decide (i.2.2.1 ≥ 1) then
             (bif decide (i.2.2.1 ≤ 24) then
              (bif decide (i.2.2.2 ≥ 1) then
               some ((decide (i.2.2.2 ≤ 20), ()), ())
              else
               some ((false, ()), ()))
             else
              some ((false, ()), ()))
            else
             some ((false, ()), ()))
           else
            some ((false, ()), ()))
          else
           (bif i.1 == 9 then
            (bif decide (i.2.1 ≥ 0) then
             (bif decide (i.2.1 < 4) then
              (bif i.2.2.1 == 0 then
               some ((i.2.2.2 == 0, ()), ())
              else
               some ((false, ()), ()))
             else
              some ((false, ()), ()))
            else
             some ((false, ()), ()))
           else
            (bif i.1 == 10 then
             (bif decide (i.2.1 ≥ 0) then
              (bif decide (i.2.1 < 4) then
               (bif i.2.2.1 == 0 then
                some ((i.2.2.2 == 0, ()), ())
               else
                some ((false, ()), ()))
              else
               some ((false, ()), ()))
             else
              some ((false, ()), ()))
            else
             some ((false, ()), ())))))))))))))
noncomputable def E72 : Env := tab.env (lk [(100, F100)]) (hintL [])
theorem E72_ok : EnvOK Try.prog E72 := envOK_of tabOK _ _ (allFn_lk (l := [(100, F100)]) ⟨ok100, trivial⟩)
noncomputable def B72 (k : Nat) : Tbl (RD R72 × MD P72) := .nil
noncomputable def F72 : Fn := ⟨P72, R72, fun k x => S72 k x.1⟩
theorem ok72 : FnOK Try.prog 72 F72 := evalF_ok (E := E72) (T := B72) E72_ok mix Try.func72 rfl (by kernel_rfl) (by kernel_rfl) (fun k => by kernel_rfl) (fun k x => by kernel_rfl)
noncomputable abbrev P75 : List PT := [.val ⟨false, Y2_13, false⟩]
noncomputable abbrev R75 : List RT := [.val ⟨false, (.sl 146 Y2_6), true⟩]
noncomputable abbrev c75_L3 : Cut := ⟨[0, 3, 4], [.cell Y2_13, .own 146 Y2_6, .cell (.int .i64)], [], 49⟩
noncomputable def l75_3 (k : Nat) (g3 : (List Y2_0) → (List Y2_1) → Int → Option Y2_14) (l_1 : List Y2_0) (out : List Y2_1) (i : Int) : Option Y2_14 :=
 (bif decide (i < (l_1.length : Int)) then
  ix l_1 i <|
  (bif (rd l_1 i (0, 0, 0, 0)).1 == 7 then
   ix l_1 i <|
   ap out ([(IntKind.i64.wrap (i + 1), IntKind.i64.wrap (i + (rd l_1 i (0, 0, 0, 0)).2.2.2), i, false)] : List Y2_1) 32 fun r0 =>
   g3 l_1 r0 (IntKind.i64.wrap (i + 1))
  else
   (bif (rd l_1 i (0, 0, 0, 0)).1 == 8 then
    ix l_1 i <|
    ap out ([(IntKind.i64.wrap (i + 1), IntKind.i64.wrap (i + (rd l_1 i (0, 0, 0, 0)).2.2.1), i, true)] : List Y2_1) 32 fun r1 =>
    g3 l_1 r1 (IntKind.i64.wrap (i + 1))
   else
    g3 l_1 out (IntKind.i64.wrap (i + 1))))
 else
  some ((out, ()), ()))
noncomputable def b75_3 (k : Nat) (g : ((Unit) × (List Y2_0) × (List Y2_1) × Int × Unit) → Option Y2_14) (d : (Unit) × (List Y2_0) × (List Y2_1) × Int × Unit) : Option Y2_14 := l75_3 k (fun l_1 out i => g ((), l_1, out, i, ())) d.2.1 d.2.2.1 d.2.2.2.1
noncomputable def L75_3 (k : Nat) (j : Nat) (l_1 : List Y2_0) (out : List Y2_1) (i : Int) : Option Y2_14 := iter (R := ((List Y2_1) × Unit) × Unit) c75_L3 (b75_3 k) j ((), l_1, out, i, ())
theorem L75_3_s (k : Nat) (j : Nat) (l_1 : List Y2_0) (out : List Y2_1) (i : Int) : L75_3 k (j + 1) l_1 out i = l75_3 k (L75_3 k j) l_1 out i := iter_succ _ _ _ _
noncomputable def S75 (k : Nat) (l_ : List Y2_0) : Option Y2_14 :=
 L75_3 k k l_ ([] : List Y2_1) 0
noncomputable def E75 : Env := tab.env (lk []) (hintL [(3, 2)])
theorem E75_ok : EnvOK Try.prog E75 := envOK_of tabOK _ _ (fun f F h => by cases h)
noncomputable def B75 (k : Nat) : Tbl (RD R75 × MD P75) := (.loop 3 c75_L3 (b75_3 k) (fun g => .nil) .nil)
noncomputable def F75 : Fn := ⟨P75, R75, fun k x => S75 k x.1⟩
theorem ok75 : FnOK Try.prog 75 F75 := evalF_ok (E := E75) (T := B75) E75_ok mix Try.func75 rfl (by kernel_rfl) (by kernel_rfl) (fun k => by kernel_rfl) (fun k x => by kernel_rfl)
noncomputable abbrev P76 : List PT := [.val ⟨true, Y2_6, false⟩, .val ⟨false, (.int .i64), false⟩]
noncomputable abbrev R76 : List RT := [.val ⟨false, .bool, true⟩]
noncomputable def S76 (k : Nat) (a : Int × Int × Int × Bool) (i : Int) : Option Y2_5 :=
 (bif decide (a.1 ≤ i) then
  some ((decide (i ≤ a.2.1), ()), ())
 else
  some ((false, ()), ()))
noncomputable def E76 : Env := tab.env (lk []) (hintL [])
theorem E76_ok : EnvOK Try.prog E76 := envOK_of tabOK _ _ (fun f F h => by cases h)
noncomputable def B76 (k : Nat) : Tbl (RD R76 × MD P76) := .nil
noncomputable def F76 : Fn := ⟨P76, R76, fun k x => S76 k x.1 x.2.1⟩
theorem ok76 : FnOK Try.prog 76 F76 := evalF_ok (E := E76) (T := B76) E76_ok mix Try.func76 rfl (by kernel_rfl) (by kernel_rfl) (fun k => by kernel_rfl) (fun k x => by kernel_rfl)
noncomputable abbrev P43 : List PT := [.val ⟨false, Y2_13, false⟩]
noncomputable abbrev R43 : List RT := [.val ⟨false, (.sl 3 (.int .i64)), true⟩, .val ⟨false, .bool, true⟩]
noncomputable abbrev c43_L10 : Cut := ⟨[0, 4, 5, 6, 7, 8], [.cell Y2_13, .own 3 (.int .i64), .own 3 (.int .i64), .own 146 Y2_6, .cell (.int .i64), .cell (.int .i64)], [], 117⟩
noncomputable def l43_10 (k : Nat) (g5 : Y2_4) (g10 : (List Y2_0) → (List Int) → (List Int) → (List Y2_1) → Int → Int → Option Y2_7) (l_2 : List Y2_0) (out1 : List Int) (open_1 : List Int) (a1 : List Y2_1) (i1 : Int) (k_ : Int) : Option Y2_7 :=
 (bif decide (k_ < (open_1.length : Int)) then
  ix open_1 k_ <|
  ix l_2 (rd open_1 k_ 0) <|
  ix l_2 i1 <|
  (bif (rd l_2 (rd open_1 k_ 0) (0, 0, 0, 0)).2.1 == (rd l_2 i1 (0, 0, 0, 0)).2.1 then
   some (([], false, ()), ())
  else
   g10 l_2 out1 open_1 a1 i1 (IntKind.i64.wrap (k_ + 1)))
 else
  ap open_1 ([i1] : List Int) 8 fun r1 =>
  (bif decide ((r1.length : Int) > 2) then
   some (([], false, ()), ())
  else
   g5 l_2 out1 r1 a1 (IntKind.i64.wrap (i1 + 1))))
noncomputable def b43_10 (k : Nat) (g5 : Y2_4) (g : ((Unit) × (List Y2_0) × (List Int) × (List Int) × (List Y2_1) × Int × Int × Unit) → Option Y2_7) (d : (Unit) × (List Y2_0) × (List Int) × (List Int) × (List Y2_1) × Int × Int × Unit) : Option Y2_7 := l43_10 k g5 (fun l_2 out1 open_1 a1 i1 k_ => g ((), l_2, out1, open_1, a1, i1, k_, ())) d.2.1 d.2.2.1 d.2.2.2.1 d.2.2.2.2.1 d.2.2.2.2.2.1 d.2.2.2.2.2.2.1
noncomputable def L43_10 (k : Nat) (g5 : Y2_4) (j : Nat) (l_2 : List Y2_0) (out1 : List Int) (open_1 : List Int) (a1 : List Y2_1) (i1 : Int) (k_ : Int) : Option Y2_7 := iter (R := ((List Int) × Bool × Unit) × Unit) c43_L10 (b43_10 k g5) j ((), l_2, out1, open_1, a1, i1, k_, ())
theorem L43_10_s (k : Nat) (g5 : Y2_4) (j : Nat) (l_2 : List Y2_0) (out1 : List Int) (open_1 : List Int) (a1 : List Y2_1) (i1 : Int) (k_ : Int) : L43_10 k g5 (j + 1) l_2 out1 open_1 a1 i1 k_ = l43_10 k g5 (L43_10 k g5 j) l_2 out1 open_1 a1 i1 k_ := iter_succ _ _ _ _
noncomputable abbrev c43_L23 : Cut := ⟨[0, 4, 5, 6, 7, 9, 10], [.cell Y2_13, .own 3 (.int .i64), .own 3 (.int .i64), .own 146 Y2_6, .cell (.int .i64), .cell (.int .i64), .cell (.int .i64)], [], 117⟩
noncomputable def l43_23 (k : Nat) (g5 : Y2_4) (g23 : (List Y2_0) → (List Int) → (List Int) → (List Y2_1) → Int → Int → Int → Option Y2_7) (l_3 : List Y2_0) (out2 : List Int) (open_2 : List Int) (a2 : List Y2_1) (i2 : Int) (k_1 : Int) (n : Int) : Option Y2_7 :=
 (bif decide (n < (a2.length : Int)) then
  ix a2 n <|
  (S76 k (rd a2 n (0, 0, 0, false)) k_1).bind fun q2 =>
  ix a2 n <|
  (S76 k (rd a2 n (0, 0, 0, false)) i2).bind fun q3 =>
  (bif !(q2.1.1 == q3.1.1) then
   some (([], false, ()), ())
  else
   g23 l_3 out2 open_2 a2 i2 k_1 (IntKind.i64.wrap (n + 1)))
 else
  ix out2 k_1 <|
  g5 l_3 (upd out2 k_1 i2) open_2 a2 (IntKind.i64.wrap (i2 + 1)))
noncomputable def b43_23 (k : Nat) (g5 : Y2_4) (g : ((Unit) × (List Y2_0) × (List Int) × (List Int) × (List Y2_1) × Int × Int × Int × Unit) → Option Y2_7) (d : (Unit) × (List Y2_0) × (List Int) × (List Int) × (List Y2_1) × Int × Int × Int × Unit) : Option Y2_7 := l43_23 k g5 (fun l_3 out2 open_2 a2 i2 k_1 n => g ((), l_3, out2, open_2, a2, i2, k_1, n, ())) d.2.1 d.2.2.1 d.2.2.2.1 d.2.2.2.2.1 d.2.2.2.2.2.1 d.2.2.2.2.2.2.1 d.2.2.2.2.2.2.2.1
noncomputable def L43_23 (k : Nat) (g5 : Y2_4) (j : Nat) (l_3 : List Y2_0) (out2 : List Int) (open_2 : List Int) (a2 : List Y2_1) (i2 : Int) (k_1 : Int) (n : Int) : Option Y2_7 := iter (R := ((List Int) × Bool × Unit) × Unit) c43_L23 (b43_23 k g5) j ((), l_3, out2, open_2, a2, i2, k_1, n, ())
theorem L43_23_s (k : Nat) (g5 : Y2_4) (j : Nat) (l_3 : List Y2_0) (out2 : List Int) (open_2 : List Int) (a2 : List Y2_1) (i2 : Int) (k_1 : Int) (n : Int) : L43_23 k g5 (j + 1) l_3 out2 open_2 a2 i2 k_1 n = l43_23 k g5 (L43_23 k g5 j) l_3 out2 open_2 a2 i2 k_1 n := iter_succ _ _ _ _
noncomputable abbrev c43_L5 : Cut := ⟨[0, 4, 5, 6, 7], [.cell Y2_13, .own 3 (.int .i64), .own 3 (.int .i64), .own 146 Y2_6, .cell (.int .i64)], [], 117⟩
noncomputable def l43_5 (k : Nat) (g5 : Y2_4) (l_1 : List Y2_0) (out : List Int) (open_ : List Int) (a : List Y2_1) (i : Int) : Option Y2_7 :=
 (bif decide (i < (l_1.length : Int)) then
  ix l_1 i <|
  (bif (rd l_1 i (0, 0, 0, 0)).1 == 9 then
   L43_10 k g5 k l_1 out open_ a i 0
  else
   (bif (rd l_1 i (0, 0, 0, 0)).1 == 10 then
    (bif (open_.length : Int) == 0 then
     some (([], false, ()), ())
    else
     ix open_ (IntKind.i64.wrap ((open_.length : Int) - 1)) <|
     ix l_1 (rd open_ (IntKind.i64.wrap ((open_.length : Int) - 1)) 0) <|
     ix l_1 i <|
     (bif (rd l_1 (rd open_ (IntKind.i64.wrap ((open_.length : Int) - 1)) 0) (0, 0, 0, 0)).2.1 != (rd l_1 i (0, 0, 0, 0)).2.1 then
      some (([], false, ()), ())
     else
      ix open_ (IntKind.i64.wrap ((open_.length : Int) - 1)) <|
      sx open_ 0 (IntKind.i64.wrap ((open_.length : Int) - 1)) <|
      L43_23 k g5 k l_1 out (open_.take (IntKind.i64.wrap ((open_.length : Int) - 1)).toNat) a i (rd open_ (IntKind.i64.wrap ((open_.length : Int) - 1)) 0) 0))
   else
    g5 l_1 out open_ a (IntKind.i64.wrap (i + 1))))
 else
  (bif decide ((open_.length : Int) > 0) then
   some (([], false, ()), ())
  else
   some ((out, true, ()), ())))
noncomputable def b43_5 (k : Nat) (g : ((Unit) × (List Y2_0) × (List Int) × (List Int) × (List Y2_1) × Int × Unit) → Option Y2_7) (d : (Unit) × (List Y2_0) × (List Int) × (List Int) × (List Y2_1) × Int × Unit) : Option Y2_7 := l43_5 k (fun l_1 out open_ a i => g ((), l_1, out, open_, a, i, ())) d.2.1 d.2.2.1 d.2.2.2.1 d.2.2.2.2.1 d.2.2.2.2.2.1
noncomputable def L43_5 (k : Nat) (j : Nat) (l_1 : List Y2_0) (out : List Int) (open_ : List Int) (a : List Y2_1) (i : Int) : Option Y2_7 := iter (R := ((List Int) × Bool × Unit) × Unit) c43_L5 (b43_5 k) j ((), l_1, out, open_, a, i, ())
theorem L43_5_s (k : Nat) (j : Nat) (l_1 : List Y2_0) (out : List Int) (open_ : List Int) (a : List Y2_1) (i : Int) : L43_5 k (j + 1) l_1 out open_ a i = l43_5 k (L43_5 k j) l_1 out open_ a i := iter_succ _ _ _ _
noncomputable def S43 (k : Nat) (l_ : List Y2_0) : Option Y2_7 :=
 mk (l_.length : Int) (l_.length : Int) 8 <|
 (S75 k l_).bind fun q0 =>
 L43_5 k k l_ (List.replicate (l_.length : Int).toNat (0 : Int)) ([] : List Int) q0.1.1 0
noncomputable def E43 : Env := tab.env (lk [(75, F75), (76, F76)]) (hintL [(5, 2), (89, 1)])
theorem E43_ok : EnvOK Try.prog E43 := envOK_of tabOK _ _ (allFn_lk (l := [(75, F75), (76, F76)]) ⟨ok75, ok76, trivial⟩)
noncomputable def B43 (k : Nat) : Tbl (RD R43 × MD P43) := (.loop 5 c43_L5 (b43_5 k) (fun g => (fun (g5 : Y2_4) => (.loop 10 c43_L10 (b43_10 k g5) (fun g => .nil) (.loop 23 c43_L23 (b43_23 k g5) (fun g => .nil) .nil))) (fun l_1 out open_ a i => g ((), l_1, out, open_, a, i, ()))) .nil)
noncomputable def F43 : Fn := ⟨P43, R43, fun k x => S43 k x.1⟩
theorem ok43 : FnOK Try.prog 43 F43 := evalF_ok (E := E43) (T := B43) E43_ok mix Try.func43 rfl (by kernel_rfl) (by kernel_rfl) (fun k => by kernel_rfl) (fun k x => by kernel_rfl)
noncomputable abbrev P77 : List PT := [.val ⟨false, Y2_13, false⟩, .val ⟨false, (.sl 3 (.int .i64)), false⟩, .val ⟨false, (.int .i64), false⟩]
noncomputable abbrev R77 : List RT := [.val ⟨false, (.int .i64), true⟩]
noncomputable abbrev c77_L3 : Cut := ⟨[0, 1, 2, 7, 8], [.cell Y2_13, .cell (.sl 3 (.int .i64)), .cell (.int .i64), .cell (.int .i64), .cell (.int .i64)], [], 37⟩
noncomputable def l77_3 (k : Nat) (g3 : (List Y2_0) → (List Int) → Int → Int → Int → Option ((Int × Unit) × Unit)) (l_1 : List Y2_0) (pairs1 : List Int) (i1 : Int) (n : Int) (k_ : Int) : Option ((Int × Unit) × Unit) :=
 (bif decide (k_ < (l_1.length : Int)) then
  ix l_1 k_ <|
  (bif (rd l_1 k_ (0, 0, 0, 0)).1 == 9 then
   (bif decide (k_ < i1) then
    ix pairs1 k_ <|
    (bif decide (i1 < (rd pairs1 k_ 0)) then
     g3 l_1 pairs1 i1 (IntKind.i64.wrap (n + 1)) (IntKind.i64.wrap (k_ + 1))
    else
     g3 l_1 pairs1 i1 n (IntKind.i64.wrap (k_ + 1)))
   else
    g3 l_1 pairs1 i1 n (IntKind.i64.wrap (k_ + 1)))
  else
   g3 l_1 pairs1 i1 n (IntKind.i64.wrap (k_ + 1)))
 else
  some ((n, ()), ()))
noncomputable def b77_3 (k : Nat) (g : ((Unit) × (List Y2_0) × (List Int) × Int × Int × Int × Unit) → Option ((Int × Unit) × Unit)) (d : (Unit) × (List Y2_0) × (List Int) × Int × Int × Int × Unit) : Option ((Int × Unit) × Unit) := l77_3 k (fun l_1 pairs1 i1 n k_ => g ((), l_1, pairs1, i1, n, k_, ())) d.2.1 d.2.2.1 d.2.2.2.1 d.2.2.2.2.1 d.2.2.2.2.2.1
noncomputable def L77_3 (k : Nat) (j : Nat) (l_1 : List Y2_0) (pairs1 : List Int) (i1 : Int) (n : Int) (k_ : Int) : Option ((Int × Unit) × Unit) := iter (R := (Int × Unit) × Unit) c77_L3 (b77_3 k) j ((), l_1, pairs1, i1, n, k_, ())
theorem L77_3_s (k : Nat) (j : Nat) (l_1 : List Y2_0) (pairs1 : List Int) (i1 : Int) (n : Int) (k_ : Int) : L77_3 k (j + 1) l_1 pairs1 i1 n k_ = l77_3 k (L77_3 k j) l_1 pairs1 i1 n k_ := iter_succ _ _ _ _
noncomputable def S77 (k : Nat) (l_ : List Y2_0) (pairs : List Int) (i : Int) : Option ((Int × Unit) × Unit) :=
 L77_3 k k l_ pairs i 0 0
noncomputable def E77 : Env := tab.env (lk []) (hintL [])
theorem E77_ok : EnvOK Try.prog E77 := envOK_of tabOK _ _ (fun f F h => by cases h)
noncomputable def B77 (k : Nat) : Tbl (RD R77 × MD P77) := (.loop 3 c77_L3 (b77_3 k) (fun g => .nil) .nil)
noncomputable def F77 : Fn := ⟨P77, R77, fun k x => S77 k x.1 x.2.1 x.2.2.1⟩
theorem ok77 : FnOK Try.prog 77 F77 := evalF_ok (E := E77) (T := B77) E77_ok mix Try.func77 rfl (by kernel_rfl) (by kernel_rfl) (fun k => by kernel_rfl) (fun k x => by kernel_rfl)
noncomputable abbrev P41 : List PT := [.val ⟨false, Y2_13, false⟩]
noncomputable abbrev R41 : List RT := [.val ⟨false, .bool, true⟩]
noncomputable abbrev c41_J20 : Cut := ⟨[0, 4, 5, 6, 7, 8], [.cell Y2_13, .own 146 Y2_6, .cell (.int .i64), .cell (.int .i64), .cell .bool, .cell .bool], [], 235⟩
noncomputable def j41_20 (k : Nat) (g10 : Y2_8) (g15 : Y2_12) (l_5 : List Y2_0) (a3 : List Y2_1) (i4 : Int) (k_2 : Int) (apart1 : Bool) (in_ : Bool) : Option Y2_5 :=
 (bif !apart1 then
  (bif !in_ then
   some ((false, ()), ())
  else
   ix a3 i4 <|
   ix a3 k_2 <|
   (S76 k (rd a3 i4 (0, 0, 0, false)) (rd a3 k_2 (0, 0, 0, false)).2.2.1).bind fun q2 =>
   (bif q2.1.1 then
    ix a3 k_2 <|
    ix a3 i4 <|
    (bif decide ((rd a3 k_2 (0, 0, 0, false)).2.1 > (rd a3 i4 (0, 0, 0, false)).2.1) then
     some ((false, ()), ())
    else
     g15 l_5 a3 i4 (IntKind.i64.wrap (k_2 + 1)))
   else
    g15 l_5 a3 i4 (IntKind.i64.wrap (k_2 + 1))))
 else
  ix a3 i4 <|
  ix a3 k_2 <|
  (S76 k (rd a3 i4 (0, 0, 0, false)) (rd a3 k_2 (0, 0, 0, false)).2.2.1).bind fun q3 =>
  (bif q3.1.1 then
   ix a3 k_2 <|
   ix a3 i4 <|
   (bif decide ((rd a3 k_2 (0, 0, 0, false)).2.1 > (rd a3 i4 (0, 0, 0, false)).2.1) then
    some ((false, ()), ())
   else
    g15 l_5 a3 i4 (IntKind.i64.wrap (k_2 + 1)))
  else
   g15 l_5 a3 i4 (IntKind.i64.wrap (k_2 + 1))))
noncomputable abbrev c41_J19 : Cut := ⟨[0, 4, 5, 6, 7], [.cell Y2_13, .own 146 Y2_6, .cell (.int .i64), .cell (.int .i64), .cell .bool], [], 235⟩
noncomputable def j41_19 (k : Nat) (g10 : Y2_8) (g15 : Y2_12) (l_4 : List Y2_0) (a2 : List Y2_1) (i3 : Int) (k_1 : Int) (apart : Bool) : Option Y2_5 :=
 ix a2 i3 <|
 ix a2 k_1 <|
 (bif decide ((rd a2 i3 (0, 0, 0, false)).1 ≤ (rd a2 k_1 (0, 0, 0, false)).1) then
  ix a2 k_1 <|
  ix a2 i3 <|
  (bif decide ((rd a2 k_1 (0, 0, 0, false)).2.1 ≤ (rd a2 i3 (0, 0, 0, false)).2.1) then
   j41_20 k g10 g15 l_4 a2 i3 k_1 apart true
  else
   ix a2 k_1 <|
   ix a2 i3 <|
   (bif decide ((rd a2 k_1 (0, 0, 0, false)).1 ≤ (rd a2 i3 (0, 0, 0, false)).1) then
    ix a2 i3 <|
    ix a2 k_1 <|
    j41_20 k g10 g15 l_4 a2 i3 k_1 apart (decide ((rd a2 i3 (0, 0, 0, false)).2.1 ≤ (rd a2 k_1 (0, 0, 0, false)).2.1))
   else
    j41_20 k g10 g15 l_4 a2 i3 k_1 apart false))
 else
  ix a2 k_1 <|
  ix a2 i3 <|
  (bif decide ((rd a2 k_1 (0, 0, 0, false)).1 ≤ (rd a2 i3 (0, 0, 0, false)).1) then
   ix a2 i3 <|
   ix a2 k_1 <|
   j41_20 k g10 g15 l_4 a2 i3 k_1 apart (decide ((rd a2 i3 (0, 0, 0, false)).2.1 ≤ (rd a2 k_1 (0, 0, 0, false)).2.1))
  else
   j41_20 k g10 g15 l_4 a2 i3 k_1 apart false))
noncomputable abbrev c41_L15 : Cut := ⟨[0, 4, 5, 6], [.cell Y2_13, .own 146 Y2_6, .cell (.int .i64), .cell (.int .i64)], [], 235⟩
noncomputable def l41_15 (k : Nat) (g10 : Y2_8) (g15 : Y2_12) (l_3 : List Y2_0) (a1 : List Y2_1) (i2 : Int) (k_ : Int) : Option Y2_5 :=
 (bif decide (k_ < (a1.length : Int)) then
  (bif i2 == k_ then
   g15 l_3 a1 i2 (IntKind.i64.wrap (k_ + 1))
  else
   ix a1 i2 <|
   ix a1 k_ <|
   (bif decide ((rd a1 i2 (0, 0, 0, false)).2.1 < (rd a1 k_ (0, 0, 0, false)).1) then
    j41_19 k g10 g15 l_3 a1 i2 k_ true
   else
    ix a1 k_ <|
    ix a1 i2 <|
    j41_19 k g10 g15 l_3 a1 i2 k_ (decide ((rd a1 k_ (0, 0, 0, false)).2.1 < (rd a1 i2 (0, 0, 0, false)).1))))
 else
  g10 l_3 a1 (IntKind.i64.wrap (i2 + 1)))
noncomputable def b41_15 (k : Nat) (g10 : Y2_8) (g : ((Unit) × (List Y2_0) × (List Y2_1) × Int × Int × Unit) → Option Y2_5) (d : (Unit) × (List Y2_0) × (List Y2_1) × Int × Int × Unit) : Option Y2_5 := l41_15 k g10 (fun l_3 a1 i2 k_ => g ((), l_3, a1, i2, k_, ())) d.2.1 d.2.2.1 d.2.2.2.1 d.2.2.2.2.1
noncomputable def L41_15 (k : Nat) (g10 : Y2_8) (j : Nat) (l_3 : List Y2_0) (a1 : List Y2_1) (i2 : Int) (k_ : Int) : Option Y2_5 := iter (R := (Bool × Unit) × Unit) c41_L15 (b41_15 k g10) j ((), l_3, a1, i2, k_, ())
theorem L41_15_s (k : Nat) (g10 : Y2_8) (j : Nat) (l_3 : List Y2_0) (a1 : List Y2_1) (i2 : Int) (k_ : Int) : L41_15 k g10 (j + 1) l_3 a1 i2 k_ = l41_15 k g10 (L41_15 k g10 j) l_3 a1 i2 k_ := iter_succ _ _ _ _
noncomputable abbrev c41_L30 : Cut := ⟨[0, 4, 9, 11, 12, 13, 14], [.cell Y2_13, .own 146 Y2_6, .own 3 (.int .i64), .cell (.int .i64), .cell (.int .i64), .cell (.int .i64), .cell (.int .i64)], [], 235⟩
noncomputable def l41_30 (k : Nat) (g26 : Y2_9) (g30 : (List Y2_0) → (List Y2_1) → (List Int) → Int → Int → Int → Int → Option Y2_5) (l_7 : List Y2_0) (a5 : List Y2_1) (pairs1 : List Int) (i6 : Int) (bodies : Int) (all : Int) (k_3 : Int) : Option Y2_5 :=
 (bif decide (k_3 < (a5.length : Int)) then
  ix a5 k_3 <|
  (S76 k (rd a5 k_3 (0, 0, 0, false)) i6).bind fun q5 =>
  (bif q5.1.1 then
   ix a5 k_3 <|
   (bif (rd a5 k_3 (0, 0, 0, false)).2.2.2 then
    g30 l_7 a5 pairs1 i6 (IntKind.i64.wrap (bodies + 1)) (IntKind.i64.wrap (all + 1)) (IntKind.i64.wrap (k_3 + 1))
   else
    g30 l_7 a5 pairs1 i6 bodies (IntKind.i64.wrap (all + 1)) (IntKind.i64.wrap (k_3 + 1)))
  else
   g30 l_7 a5 pairs1 i6 bodies all (IntKind.i64.wrap (k_3 + 1)))
 else
  (bif decide (bodies > 2) then
   some ((false, ()), ())
  else
   ix l_7 i6 <|
   (bif (rd l_7 i6 (0, 0, 0, 0)).1 == 11 then
    (bif decide (all > 0) then
     some ((false, ()), ())
    else
     (S77 k l_7 pairs1 i6).bind fun q6 =>
     (bif decide (q6.1.1 > 0) then
      some ((false, ()), ())
     else
      g26 l_7 a5 pairs1 (IntKind.i64.wrap (i6 + 1))))
   else
    g26 l_7 a5 pairs1 (IntKind.i64.wrap (i6 + 1)))))
noncomputable def b41_30 (k : Nat) (g26 : Y2_9) (g : ((Unit) × (List Y2_0) × (List Y2_1) × (List Int) × Int × Int × Int × Int × Unit) → Option Y2_5) (d : (Unit) × (List Y2_0) × (List Y2_1) × (List Int) × Int × Int × Int × Int × Unit) : Option Y2_5 := l41_30 k g26 (fun l_7 a5 pairs1 i6 bodies all k_3 => g ((), l_7, a5, pairs1, i6, bodies, all, k_3, ())) d.2.1 d.2.2.1 d.2.2.2.1 d.2.2.2.2.1 d.2.2.2.2.2.1 d.2.2.2.2.2.2.1 d.2.2.2.2.2.2.2.1
noncomputable def L41_30 (k : Nat) (g26 : Y2_9) (j : Nat) (l_7 : List Y2_0) (a5 : List Y2_1) (pairs1 : List Int) (i6 : Int) (bodies : Int) (all : Int) (k_3 : Int) : Option Y2_5 := iter (R := (Bool × Unit) × Unit) c41_L30 (b41_30 k g26) j ((), l_7, a5, pairs1, i6, bodies, all, k_3, ())
theorem L41_30_s (k : Nat) (g26 : Y2_9) (j : Nat) (l_7 : List Y2_0) (a5 : List Y2_1) (pairs1 : List Int) (i6 : Int) (bodies : Int) (all : Int) (k_3 : Int) : L41_30 k g26 (j + 1) l_7 a5 pairs1 i6 bodies all k_3 = l41_30 k g26 (L41_30 k g26 j) l_7 a5 pairs1 i6 bodies all k_3 := iter_succ _ _ _ _
noncomputable abbrev c41_L26 : Cut := ⟨[0, 4, 9, 11], [.cell Y2_13, .own 146 Y2_6, .own 3 (.int .i64), .cell (.int .i64)], [], 235⟩
noncomputable def l41_26 (k : Nat) (g26 : Y2_9) (l_6 : List Y2_0) (a4 : List Y2_1) (pairs : List Int) (i5 : Int) : Option Y2_5 :=
 (bif decide (i5 < (l_6.length : Int)) then
  L41_30 k g26 k l_6 a4 pairs i5 0 0 0
 else
  some ((true, ()), ()))
noncomputable def b41_26 (k : Nat) (g : ((Unit) × (List Y2_0) × (List Y2_1) × (List Int) × Int × Unit) → Option Y2_5) (d : (Unit) × (List Y2_0) × (List Y2_1) × (List Int) × Int × Unit) : Option Y2_5 := l41_26 k (fun l_6 a4 pairs i5 => g ((), l_6, a4, pairs, i5, ())) d.2.1 d.2.2.1 d.2.2.2.1 d.2.2.2.2.1
noncomputable def L41_26 (k : Nat) (j : Nat) (l_6 : List Y2_0) (a4 : List Y2_1) (pairs : List Int) (i5 : Int) : Option Y2_5 := iter (R := (Bool × Unit) × Unit) c41_L26 (b41_26 k) j ((), l_6, a4, pairs, i5, ())
theorem L41_26_s (k : Nat) (j : Nat) (l_6 : List Y2_0) (a4 : List Y2_1) (pairs : List Int) (i5 : Int) : L41_26 k (j + 1) l_6 a4 pairs i5 = l41_26 k (L41_26 k j) l_6 a4 pairs i5 := iter_succ _ _ _ _
noncomputable abbrev c41_L10 : Cut := ⟨[0, 4, 5], [.cell Y2_13, .own 146 Y2_6, .cell (.int .i64)], [], 235⟩
noncomputable def l41_10 (k : Nat) (g10 : Y2_8) (l_2 : List Y2_0) (a : List Y2_1) (i1 : Int) : Option Y2_5 :=
 (bif decide (i1 < (a.length : Int)) then
  ix a i1 <|
  (bif decide ((rd a i1 (0, 0, 0, false)).2.1 ≥ (IntKind.i64.wrap ((l_2.length : Int) - 1))) then
   some ((false, ()), ())
  else
   L41_15 k g10 k l_2 a i1 0)
 else
  (S43 k l_2).bind fun q4 =>
  (bif !q4.1.2.1 then
   some ((false, ()), ())
  else
   L41_26 k k l_2 a q4.1.1 0))
noncomputable def b41_10 (k : Nat) (g : ((Unit) × (List Y2_0) × (List Y2_1) × Int × Unit) → Option Y2_5) (d : (Unit) × (List Y2_0) × (List Y2_1) × Int × Unit) : Option Y2_5 := l41_10 k (fun l_2 a i1 => g ((), l_2, a, i1, ())) d.2.1 d.2.2.1 d.2.2.2.1
noncomputable def L41_10 (k : Nat) (j : Nat) (l_2 : List Y2_0) (a : List Y2_1) (i1 : Int) : Option Y2_5 := iter (R := (Bool × Unit) × Unit) c41_L10 (b41_10 k) j ((), l_2, a, i1, ())
theorem L41_10_s (k : Nat) (j : Nat) (l_2 : List Y2_0) (a : List Y2_1) (i1 : Int) : L41_10 k (j + 1) l_2 a i1 = l41_10 k (L41_10 k j) l_2 a i1 := iter_succ _ _ _ _
noncomputable abbrev c41_L4 : Cut := ⟨[0, 3], [.cell Y2_13, .cell (.int .i64)], [], 235⟩
noncomputable def l41_4 (k : Nat) (g4 : (List Y2_0) → Int → Option Y2_5) (l_1 : List Y2_0) (i : Int) : Option Y2_5 :=
 (bif decide (i < (l_1.length : Int)) then
  ix l_1 i <|
  (S72 k (rd l_1 i (0, 0, 0, 0))).bind fun q0 =>
  (bif !q0.1.1 then
   some ((false, ()), ())
  else
   ix l_1 i <|
   (bif !(((rd l_1 i (0, 0, 0, 0)).1 == 0) == (i == (IntKind.i64.wrap ((l_1.length : Int) - 1)))) then
    some ((false, ()), ())
   else
    g4 l_1 (IntKind.i64.wrap (i + 1))))
 else
  (S75 k l_1).bind fun q1 =>
  L41_10 k k l_1 q1.1.1 0)
noncomputable def b41_4 (k : Nat) (g : ((Unit) × (List Y2_0) × Int × Unit) → Option Y2_5) (d : (Unit) × (List Y2_0) × Int × Unit) : Option Y2_5 := l41_4 k (fun l_1 i => g ((), l_1, i, ())) d.2.1 d.2.2.1
noncomputable def L41_4 (k : Nat) (j : Nat) (l_1 : List Y2_0) (i : Int) : Option Y2_5 := iter (R := (Bool × Unit) × Unit) c41_L4 (b41_4 k) j ((), l_1, i, ())
theorem L41_4_s (k : Nat) (j : Nat) (l_1 : List Y2_0) (i : Int) : L41_4 k (j + 1) l_1 i = l41_4 k (L41_4 k j) l_1 i := iter_succ _ _ _ _
noncomputable def S41 (k : Nat) (l_ : List Y2_0) : Option Y2_5 :=
 (bif decide ((l_.length : Int) < 1) then
  some ((false, ()), ())
 else
  (bif decide ((l_.length : Int) > 24) then
   some ((false, ()), ())
  else
   L41_4 k k l_ 0))
noncomputable def E41 : Env := tab.env (lk [(43, F43), (72, F72), (75, F75), (76, F76), (77, F77)]) (hintL [])
theorem E41_ok : EnvOK Try.prog E41 := envOK_of tabOK _ _ (allFn_lk (l := [(43, F43), (72, F72), (75, F75), (76, F76), (77, F77)]) ⟨ok43, ok72, ok75, ok76, ok77, trivial⟩)
noncomputable def B41 (k : Nat) : Tbl (RD R41 × MD P41) := (.loop 26 c41_L26 (b41_26 k) (fun g => (fun (g26 : Y2_9) => (.loop 30 c41_L30 (b41_30 k g26) (fun g => .nil) .nil)) (fun l_6 a4 pairs i5 => g ((), l_6, a4, pairs, i5, ()))) (.loop 10 c41_L10 (b41_10 k) (fun g => (fun (g10 : Y2_8) => (.loop 15 c41_L15 (b41_15 k g10) (fun g => (fun (g15 : Y2_12) => (.join 20 c41_J20 (fun d => j41_20 k g10 g15 d.2.1 d.2.2.1 d.2.2.2.1 d.2.2.2.2.1 d.2.2.2.2.2.1 d.2.2.2.2.2.2.1) (.join 19 c41_J19 (fun d => j41_19 k g10 g15 d.2.1 d.2.2.1 d.2.2.2.1 d.2.2.2.2.1 d.2.2.2.2.2.1) .nil))) (fun l_3 a1 i2 k_ => g ((), l_3, a1, i2, k_, ()))) .nil)) (fun l_2 a i1 => g ((), l_2, a, i1, ()))) (.loop 4 c41_L4 (b41_4 k) (fun g => .nil) .nil)))
noncomputable def F41 : Fn := ⟨P41, R41, fun k x => S41 k x.1⟩
theorem ok41 : FnOK Try.prog 41 F41 := evalF_ok (E := E41) (T := B41) E41_ok mix Try.func41 rfl (by kernel_rfl) (by kernel_rfl) (fun k => by kernel_rfl) (fun k x => by kernel_rfl)
end Go.Proofs.Ytnlfdfjkgaanjaa.Ab
