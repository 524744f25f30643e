import Derived.Test.YthmicjldfdadjaaAbH1
/- Contracts, printed by this session's own program gen.py. -/
set_option linter.unusedVariables false
set_option linter.unusedSimpArgs false
set_option maxRecDepth 100000
namespace Go.Proofs.Ythmicjldfdadjaa.Ab
open Go.RowKit Go.Proofs.YthmicjldfdadjaaW.PrintWords
abbrev Y2_0 : Type := Int × Int × Int × Int
abbrev Y2_1 : Ty := .pair (.int .i64) (.pair (.int .i64) (.pair (.int .i64) (.int .i64)))
abbrev Y2_2 : Type := Int × Int × Int × Bool
abbrev Y2_3 : Type := (List Y2_0) → (List Int) → (List Int) → (List Y2_2) → Int → Option (((List Int) × Bool × Unit) × Unit)
abbrev Y2_4 : Type := (Bool × Unit) × Unit
abbrev Y2_5 : Type := ((List Y2_0) × Unit) × ((List Int) × Int × Unit) × Unit
abbrev Y2_6 : Ty := .pair (.int .i64) (.pair (.int .i64) (.pair (.int .i64) .bool))
abbrev Y2_7 : Type := ((List Int) × Bool × Unit) × Unit
abbrev Y2_8 : Type := (List Y2_0) → (List Y2_2) → Int → Option Y2_4
abbrev Y2_9 : Type := (List Y2_0) → (List Y2_2) → (List Int) → Int → Option Y2_4
abbrev Y2_10 : Type := (List Int) × Int × Unit
abbrev Y2_11 : Type := (List Int) → Int → Int → (List Y2_0) → Int → Option Y2_5
abbrev Y2_12 : Type := (List Y2_0) → (List Y2_2) → Int → Int → Option Y2_4
abbrev Y2_13 : Ty := .sl 42 Y2_1
abbrev Y2_14 : Type := ((List Y2_2) × Unit) × Unit
abbrev Y2_15 : Ty := .sl 5 (.int .u8)
noncomputable abbrev P11 : List PT := []
noncomputable abbrev R11 : List RT := [.val ⟨false, .bool, true⟩]
noncomputable def S11 (k : Nat) : Option Y2_4 :=
 (S16 k (0, 10, 9, ([(9, 0, 0, 0), (10, 0, 0, 0), (0, 0, 0, 0)] : List Y2_0), [], [])).bind fun q0 =>
 (S18 k (0, 10, 9, ([(9, 0, 0, 0), (10, 0, 0, 0), (0, 0, 0, 0)] : List Y2_0), [], [])).bind fun q1 =>
 (bif q1.1.1 == 0 then
  (bif q0.1.1 == 3 then
   (bif q0.1.2.1 == 3 then
    (bif (q0.1.2.2.1.length : Int) == 1 then
     ix q0.1.2.2.1 0 <|
     (bif (rd q0.1.2.2.1 0 (0, 0)).2 == 1 then
      (S18 k (0, 10, 11, ([(9, 0, 0, 0), (10, 0, 0, 0), (0, 0, 0, 0)] : List Y2_0), [], [])).bind fun q2 =>
      some ((q2.1.1 == 9, ()), ())
     else
      some ((false, ()), ()))
    else
     some ((false, ()), ()))
   else
    some ((false, ()), ()))
  else
   some ((false, ()), ()))
 else
  some ((false, ()), ()))
noncomputable def E11 : Env := tab.env (lk [(16, F16), (18, F18)]) (hintL [])
theorem E11_ok : EnvOK Try.prog E11 := envOK_of tabOK _ _ (allFn_lk (l := [(16, F16), (18, F18)]) ⟨ok16, ok18, trivial⟩)
noncomputable def B11 (k : Nat) : Tbl (RD R11 × MD P11) := .nil
noncomputable def F11 : Fn := ⟨P11, R11, fun k x => S11 k ⟩
theorem ok11 : FnOK Try.prog 11 F11 := evalF_ok (E := E11) (T := B11) E11_ok mix Try.func11 rfl (by kernel_rfl) (by kernel_rfl) (fun k => by kernel_rfl) (fun k x => by kernel_rfl)
noncomputable abbrev P13 : List PT := [.val ⟨false, Y2_15, false⟩]
noncomputable abbrev R13 : List RT := [.pv (.box 55 [.cell Y2_15, .cell (.int .i64)])]
noncomputable def S13 (k : Nat) (l_ : List Int) : Option ((Y2_10 × Unit) × Unit) :=
 some (((l_, 0, ()), ()), ())
noncomputable def E13 : Env := tab.env (lk []) (hintL [])
theorem E13_ok : EnvOK Try.prog E13 := envOK_of tabOK _ _ (fun f F h => by cases h)
noncomputable def B13 (k : Nat) : Tbl (RD R13 × MD P13) := .nil
noncomputable def F13 : Fn := ⟨P13, R13, fun k x => S13 k x.1⟩
theorem ok13 : FnOK Try.prog 13 F13 := evalF_ok (E := E13) (T := B13) E13_ok mix Try.func13 rfl (by kernel_rfl) (by kernel_rfl) (fun k => by kernel_rfl) (fun k x => by kernel_rfl)
noncomputable abbrev P28 : List PT := [.mbox 55 [.cell Y2_15, .cell (.int .i64)], .val ⟨false, (.int .i64), false⟩]
noncomputable abbrev R28 : List RT := [.val ⟨false, (.int .i64), true⟩]
noncomputable def S28 (k : Nat) (p : List Int) (p1 : Int) (m : Int) : Option ((Int × Unit) × Y2_10 × Unit) :=
 (bif decide (p1 ≥ (p.length : Int)) then
  some ((0, ()), (p, p1, ()), ())
 else
  ix p (IntKind.i64.wrap ((IntKind.i64.wrap (p1 + 1)) - 1)) <|
  nz m <|
  some ((Int.tmod (IntKind.i64.wrap (rd p (IntKind.i64.wrap ((IntKind.i64.wrap (p1 + 1)) - 1)) 0)) m, ()), (p, IntKind.i64.wrap (p1 + 1), ()), ()))
noncomputable def E28 : Env := tab.env (lk []) (hintL [])
theorem E28_ok : EnvOK Try.prog E28 := envOK_of tabOK _ _ (fun f F h => by cases h)
noncomputable def B28 (k : Nat) : Tbl (RD R28 × MD P28) := .nil
noncomputable def F28 : Fn := ⟨P28, R28, fun k x => S28 k x.1.1 x.1.2.1 x.2.1⟩
theorem ok28 : FnOK Try.prog 28 F28 := evalF_ok (E := E28) (T := B28) E28_ok mix Try.func28 rfl (by kernel_rfl) (by kernel_rfl) (fun k => by kernel_rfl) (fun k x => by kernel_rfl)
noncomputable abbrev P29 : List PT := [.mbox 55 [.cell Y2_15, .cell (.int .i64)]]
noncomputable abbrev R29 : List RT := [.val ⟨true, Y2_1, true⟩]
noncomputable def S29 (k : Nat) (p : List Int) (p1 : Int) : Option ((Y2_0 × Unit) × Y2_10 × Unit) :=
 (S28 k p p1 3).bind fun q0 =>
 (S28 k q0.2.1.1 q0.2.1.2.1 3).bind fun q1 =>
 (S28 k q1.2.1.1 q1.2.1.2.1 6).bind fun q2 =>
 (bif q2.1.1 == 0 then
  (S28 k q2.2.1.1 q2.2.1.2.1 9).bind fun q3 =>
  some (((1, q0.1.1, 0, IntKind.i64.wrap (q3.1.1 - 4)), ()), (q3.2.1.1, q3.2.1.2.1, ()), ())
 else
  (bif q2.1.1 == 1 then
   some (((2, q0.1.1, q1.1.1, 0), ()), (q2.2.1.1, q2.2.1.2.1, ()), ())
  else
   (bif q2.1.1 == 2 then
    some (((3, q0.1.1, q1.1.1, 0), ()), (q2.2.1.1, q2.2.1.2.1, ()), ())
   else
    (bif q2.1.1 == 3 then
     some (((4, q0.1.1, q1.1.1, 0), ()), (q2.2.1.1, q2.2.1.2.1, ()), ())
    else
     (bif q2.1.1 == 4 then
      (S28 k q2.2.1.1 q2.2.1.2.1 7).bind fun q4 =>
      some (((5, q0.1.1, 0, IntKind.i64.wrap (q4.1.1 - 3)), ()), (q4.2.1.1, q4.2.1.2.1, ()), ())
     else
      (S28 k q2.2.1.1 q2.2.1.2.1 64).bind fun q5 =>
      some (((6, q0.1.1, 0, IntKind.i64.wrap (1 + q5.1.1)), ()), (q5.2.1.1, q5.2.1.2.1, ()), ()))))))
noncomputable def E29 : Env := tab.env (lk [(28, F28)]) (hintL [])
theorem E29_ok : EnvOK Try.prog E29 := envOK_of tabOK _ _ (allFn_lk (l := [(28, F28)]) ⟨ok28, trivial⟩)
noncomputable def B29 (k : Nat) : Tbl (RD R29 × MD P29) := .nil
noncomputable def F29 : Fn := ⟨P29, R29, fun k x => S29 k x.1.1 x.1.2.1⟩
theorem ok29 : FnOK Try.prog 29 F29 := evalF_ok (E := E29) (T := B29) E29_ok mix Try.func29 rfl (by kernel_rfl) (by kernel_rfl) (fun k => by kernel_rfl) (fun k x => by kernel_rfl)
noncomputable abbrev P45 : List PT := [.mbox 55 [.cell Y2_15, .cell (.int .i64)], .val ⟨false, (.int .i64), false⟩, .val ⟨false, (.int .i64), false⟩]
noncomputable abbrev R45 : List RT := [.val ⟨false, Y2_13, true⟩]
noncomputable abbrev c45_L3 : Cut := ⟨[0, 2, 7, 8], [.pin false 0, .cell (.int .i64), .own 42 Y2_1, .cell (.int .i64)], [.mbox 55 [.cell Y2_15, .cell (.int .i64)]], 47⟩
noncomputable def l45_3 (k : Nat) (g3 : Y2_11) (p2 : List Int) (p3 : Int) (locks1 : Int) (l_ : List Y2_0) (i : Int) : Option Y2_5 :=
 (bif decide (i > 0) then
  (bif decide (locks1 > 0) then
   (S28 k p2 p3 4).bind fun q1 =>
   (bif q1.1.1 == 0 then
    (S28 k q1.2.1.1 q1.2.1.2.1 locks1).bind fun q2 =>
    ap l_ ([(9, q2.1.1, 0, 0)] : List Y2_0) 32 fun r3 =>
    (S29 k q2.2.1.1 q2.2.1.2.1).bind fun q4 =>
    ap r3 ([q4.1.1] : List Y2_0) 32 fun r5 =>
    ap r5 ([(10, q2.1.1, 0, 0)] : List Y2_0) 32 fun r6 =>
    g3 q4.2.1.1 q4.2.1.2.1 locks1 r6 (IntKind.i64.wrap (i - 1))
   else
    (S29 k q1.2.1.1 q1.2.1.2.1).bind fun q7 =>
    ap l_ ([q7.1.1] : List Y2_0) 32 fun r8 =>
    g3 q7.2.1.1 q7.2.1.2.1 locks1 r8 (IntKind.i64.wrap (i - 1)))
  else
   (S29 k p2 p3).bind fun q9 =>
   ap l_ ([q9.1.1] : List Y2_0) 32 fun r10 =>
   g3 q9.2.1.1 q9.2.1.2.1 locks1 r10 (IntKind.i64.wrap (i - 1)))
 else
  some ((l_, ()), (p2, p3, ()), ()))
noncomputable def b45_3 (k : Nat) (g : ((Y2_10 × Unit) × Unit × Int × (List Y2_0) × Int × Unit) → Option Y2_5) (d : (Y2_10 × Unit) × Unit × Int × (List Y2_0) × Int × Unit) : Option Y2_5 := l45_3 k (fun p2 p3 locks1 l_ i => g (((p2, p3, ()), ()), (), locks1, l_, i, ())) d.1.1.1 d.1.1.2.1 d.2.2.1 d.2.2.2.1 d.2.2.2.2.1
noncomputable def L45_3 (k : Nat) (j : Nat) (p2 : List Int) (p3 : Int) (locks1 : Int) (l_ : List Y2_0) (i : Int) : Option Y2_5 := iter (R := ((List Y2_0) × Unit) × Y2_10 × Unit) c45_L3 (b45_3 k) j (((p2, p3, ()), ()), (), locks1, l_, i, ())
theorem L45_3_s (k : Nat) (j : Nat) (p2 : List Int) (p3 : Int) (locks1 : Int) (l_ : List Y2_0) (i : Int) : L45_3 k (j + 1) p2 p3 locks1 l_ i = l45_3 k (L45_3 k j) p2 p3 locks1 l_ i := iter_succ _ _ _ _
noncomputable def S45 (k : Nat) (p : List Int) (p1 : Int) (most : Int) (locks : Int) : Option Y2_5 :=
 (S28 k p p1 most).bind fun q0 =>
 L45_3 k k q0.2.1.1 q0.2.1.2.1 locks ([] : List Y2_0) (IntKind.i64.wrap (q0.1.1 + 1))
noncomputable def E45 : Env := tab.env (lk [(28, F28), (29, F29)]) (hintL [(7, 2)])
theorem E45_ok : EnvOK Try.prog E45 := envOK_of tabOK _ _ (allFn_lk (l := [(28, F28), (29, F29)]) ⟨ok28, ok29, trivial⟩)
noncomputable def B45 (k : Nat) : Tbl (RD R45 × MD P45) := (.loop 3 c45_L3 (b45_3 k) (fun g => .nil) .nil)
noncomputable def F45 : Fn := ⟨P45, R45, fun k x => S45 k x.1.1 x.1.2.1 x.2.1 x.2.2.1⟩
theorem ok45 : FnOK Try.prog 45 F45 := evalF_ok (E := E45) (T := B45) E45_ok mix Try.func45 rfl (by kernel_rfl) (by kernel_rfl) (fun k => by kernel_rfl) (fun k x => by kernel_rfl)
noncomputable abbrev P27 : List PT := [.mbox 55 [.cell Y2_15, .cell (.int .i64)], .val ⟨false, (.int .i64), false⟩]
noncomputable abbrev R27 : List RT := [.val ⟨false, Y2_13, true⟩]
noncomputable abbrev c27_J16 : Cut := ⟨[0, 1, 5, 6, 7], [.pin false 0, .cell (.int .i64), .own 42 Y2_1, .cell (.int .i64), .own 42 Y2_1], [.mbox 55 [.cell Y2_15, .cell (.int .i64)]], 66⟩
noncomputable def j27_16 (k : Nat) (g3 : Y2_11) (p4 : List Int) (p5 : Int) (locks2 : Int) (l_1 : List Y2_0) (i1 : Int) (x : List Y2_0) : Option Y2_5 :=
 (bif decide ((IntKind.i64.wrap ((l_1.length : Int) + (x.length : Int))) < 23) then
  ap l_1 x 32 fun r9 =>
  g3 p4 p5 locks2 r9 (IntKind.i64.wrap (i1 - 1))
 else
  g3 p4 p5 locks2 l_1 (IntKind.i64.wrap (i1 - 1)))
noncomputable abbrev c27_L3 : Cut := ⟨[0, 1, 5, 6], [.pin false 0, .cell (.int .i64), .own 42 Y2_1, .cell (.int .i64)], [.mbox 55 [.cell Y2_15, .cell (.int .i64)]], 66⟩
noncomputable def l27_3 (k : Nat) (g3 : Y2_11) (p2 : List Int) (p3 : Int) (locks1 : Int) (l_ : List Y2_0) (i : Int) : Option Y2_5 :=
 (bif decide (i > 0) then
  (S28 k p2 p3 5).bind fun q1 =>
  (bif q1.1.1 == 0 then
   (S45 k q1.2.1.1 q1.2.1.2.1 2 locks1).bind fun q2 =>
   (S28 k q2.2.1.1 q2.2.1.2.1 3).bind fun q3 =>
   ap ([(8, 0, (q2.1.1.length : Int), IntKind.i64.wrap (1 + q3.1.1))] : List Y2_0) q2.1.1 32 fun r4 =>
   j27_16 k g3 q3.2.1.1 q3.2.1.2.1 locks1 l_ i r4
  else
   (bif q1.1.1 == 1 then
    (S45 k q1.2.1.1 q1.2.1.2.1 2 locks1).bind fun q5 =>
    (S28 k q5.2.1.1 q5.2.1.2.1 3).bind fun q6 =>
    ap ([(7, q6.1.1, 0, (q5.1.1.length : Int))] : List Y2_0) q5.1.1 32 fun r7 =>
    j27_16 k g3 q6.2.1.1 q6.2.1.2.1 locks1 l_ i r7
   else
    (bif q1.1.1 == 2 then
     j27_16 k g3 q1.2.1.1 q1.2.1.2.1 locks1 l_ i ([(11, 0, 0, 0)] : List Y2_0)
    else
     (S45 k q1.2.1.1 q1.2.1.2.1 2 locks1).bind fun q8 =>
     j27_16 k g3 q8.2.1.1 q8.2.1.2.1 locks1 l_ i q8.1.1)))
 else
  ap l_ ([(0, 0, 0, 0)] : List Y2_0) 32 fun r10 =>
  some ((r10, ()), (p2, p3, ()), ()))
noncomputable def b27_3 (k : Nat) (g : ((Y2_10 × Unit) × Unit × Int × (List Y2_0) × Int × Unit) → Option Y2_5) (d : (Y2_10 × Unit) × Unit × Int × (List Y2_0) × Int × Unit) : Option Y2_5 := l27_3 k (fun p2 p3 locks1 l_ i => g (((p2, p3, ()), ()), (), locks1, l_, i, ())) d.1.1.1 d.1.1.2.1 d.2.2.1 d.2.2.2.1 d.2.2.2.2.1
noncomputable def L27_3 (k : Nat) (j : Nat) (p2 : List Int) (p3 : Int) (locks1 : Int) (l_ : List Y2_0) (i : Int) : Option Y2_5 := iter (R := ((List Y2_0) × Unit) × Y2_10 × Unit) c27_L3 (b27_3 k) j (((p2, p3, ()), ()), (), locks1, l_, i, ())
theorem L27_3_s (k : Nat) (j : Nat) (p2 : List Int) (p3 : Int) (locks1 : Int) (l_ : List Y2_0) (i : Int) : L27_3 k (j + 1) p2 p3 locks1 l_ i = l27_3 k (L27_3 k j) p2 p3 locks1 l_ i := iter_succ _ _ _ _
noncomputable def S27 (k : Nat) (p : List Int) (p1 : Int) (locks : Int) : Option Y2_5 :=
 (S28 k p p1 4).bind fun q0 =>
 L27_3 k k q0.2.1.1 q0.2.1.2.1 locks ([] : List Y2_0) (IntKind.i64.wrap (q0.1.1 + 1))
noncomputable def E27 : Env := tab.env (lk [(28, F28), (45, F45)]) (hintL [(5, 2)])
theorem E27_ok : EnvOK Try.prog E27 := envOK_of tabOK _ _ (allFn_lk (l := [(28, F28), (45, F45)]) ⟨ok28, ok45, trivial⟩)
noncomputable def B27 (k : Nat) : Tbl (RD R27 × MD P27) := (.loop 3 c27_L3 (b27_3 k) (fun g => (fun (g3 : Y2_11) => (.join 16 c27_J16 (fun d => j27_16 k g3 d.1.1.1 d.1.1.2.1 d.2.2.1 d.2.2.2.1 d.2.2.2.2.1 d.2.2.2.2.2.1) .nil)) (fun p2 p3 locks1 l_ i => g (((p2, p3, ()), ()), (), locks1, l_, i, ()))) .nil)
noncomputable def F27 : Fn := ⟨P27, R27, fun k x => S27 k x.1.1 x.1.2.1 x.2.1⟩
theorem ok27 : FnOK Try.prog 27 F27 := evalF_ok (E := E27) (T := B27) E27_ok mix Try.func27 rfl (by kernel_rfl) (by kernel_rfl) (fun k => by kernel_rfl) (fun k x => by kernel_rfl)
noncomputable abbrev P14 : List PT := [.mbox 55 [.cell Y2_15, .cell (.int .i64)], .val ⟨false, (.int .i64), false⟩, .val ⟨false, (.int .i64), false⟩]
noncomputable abbrev R14 : List RT := [.val ⟨true, (.pair (.int .i64) (.pair (.int .i64) (.pair (.int .i64) (.pair Y2_13 (.pair Y2_13 Y2_13))))), false⟩]
noncomputable abbrev c14_J6 : Cut := ⟨[0, 6, 7], [.pin false 0, .box 24 [.cell (.int .i64), .cell (.int .i64), .cell (.int .i64), .nil, .nil, .nil], .box 24 [.cell (.int .i64), .cell (.int .i64), .cell (.int .i64), .own 42 Y2_1, .cell Y2_13, .own 42 Y2_1]], [.mbox 55 [.cell Y2_15, .cell (.int .i64)]], 41⟩
noncomputable def j14_6 (k : Nat) (p2 : List Int) (p3 : Int) (t6 : Int) (t6_1 : Int) (t6_2 : Int) (t : Int) (t1 : Int) (t2 : Int) (t3 : List Y2_0) (t4 : List Y2_0) (t5 : List Y2_0) : Option (((Int × Int × Int × (List Y2_0) × (List Y2_0) × List Y2_0) × Unit) × Y2_10 × Unit) :=
 (S28 k p2 p3 3).bind fun q5 =>
 (bif q5.1.1 == 0 then
  (S27 k q5.2.1.1 q5.2.1.2.1 0).bind fun q6 =>
  some (((t, t1, t2, t3, t4, q6.1.1), ()), (q6.2.1.1, q6.2.1.2.1, ()), ())
 else
  some (((t, t1, t2, t3, t4, t5), ()), (q5.2.1.1, q5.2.1.2.1, ()), ()))
noncomputable def S14 (k : Nat) (p : List Int) (p1 : Int) (rank : Int) (locks : Int) : Option (((Int × Int × Int × (List Y2_0) × (List Y2_0) × List Y2_0) × Unit) × Y2_10 × Unit) :=
 (S27 k p p1 locks).bind fun q0 =>
 (S28 k q0.2.1.1 q0.2.1.2.1 12).bind fun q1 =>
 (S28 k q1.2.1.1 q1.2.1.2.1 10).bind fun q2 =>
 (S28 k q2.2.1.1 q2.2.1.2.1 3).bind fun q3 =>
 (bif q3.1.1 == 0 then
  (S28 k q3.2.1.1 q3.2.1.2.1 2).bind fun q4 =>
  sx ([(1, 0, 0, 99), (0, 0, 0, 0)] : List Y2_0) q4.1.1 (([(1, 0, 0, 99), (0, 0, 0, 0)] : List Y2_0).length : Int) <|
  j14_6 k q4.2.1.1 q4.2.1.2.1 0 0 0 rank (IntKind.i64.wrap (20 + (IntKind.i64.wrap (10 * q1.1.1)))) (IntKind.i64.wrap ((IntKind.i64.wrap (20 + (IntKind.i64.wrap (10 * q1.1.1)))) - q2.1.1)) q0.1.1 (sub ([(1, 0, 0, 99), (0, 0, 0, 0)] : List Y2_0) q4.1.1 (([(1, 0, 0, 99), (0, 0, 0, 0)] : List Y2_0).length : Int)) ([] : List Y2_0)
 else
  j14_6 k q3.2.1.1 q3.2.1.2.1 0 0 0 rank (IntKind.i64.wrap (20 + (IntKind.i64.wrap (10 * q1.1.1)))) (IntKind.i64.wrap ((IntKind.i64.wrap (20 + (IntKind.i64.wrap (10 * q1.1.1)))) - q2.1.1)) q0.1.1 ([] : List Y2_0) ([] : List Y2_0))
noncomputable def E14 : Env := tab.env (lk [(27, F27), (28, F28)]) (hintL [(12, 2)])
theorem E14_ok : EnvOK Try.prog E14 := envOK_of tabOK _ _ (allFn_lk (l := [(27, F27), (28, F28)]) ⟨ok27, ok28, trivial⟩)
noncomputable def B14 (k : Nat) : Tbl (RD R14 × MD P14) := (.join 6 c14_J6 (fun d => j14_6 k d.1.1.1 d.1.1.2.1 d.2.2.1.1 d.2.2.1.2.1 d.2.2.1.2.2.1 d.2.2.2.1.1 d.2.2.2.1.2.1 d.2.2.2.1.2.2.1 d.2.2.2.1.2.2.2.1 d.2.2.2.1.2.2.2.2.1 d.2.2.2.1.2.2.2.2.2.1) .nil)
noncomputable def F14 : Fn := ⟨P14, R14, fun k x => S14 k x.1.1 x.1.2.1 x.2.1 x.2.2.1⟩
theorem ok14 : FnOK Try.prog 14 F14 := evalF_ok (E := E14) (T := B14) E14_ok mix Try.func14 rfl (by kernel_rfl) (by kernel_rfl) (fun k => by kernel_rfl) (fun k x => by kernel_rfl)
noncomputable abbrev P80 : List PT := [.val ⟨true, (.int .i64), false⟩, .val ⟨false, (.int .i64), false⟩]
noncomputable abbrev R80 : List RT := [.val ⟨false, .bool, true⟩]
noncomputable def S80 (k : Nat) (f : Int) (a : Int) : Option Y2_4 :=
 (bif decide (a ≥ 0) then
  some ((decide (a < f), ()), ())
 else
  some ((false, ()), ()))
noncomputable def E80 : Env := tab.env (lk []) (hintL [])
theorem E80_ok : EnvOK Try.prog E80 := envOK_of tabOK _ _ (fun f F h => by cases h)
noncomputable def B80 (k : Nat) : Tbl (RD R80 × MD P80) := .nil
noncomputable def F80 : Fn := ⟨P80, R80, fun k x => S80 k x.1 x.2.1⟩
theorem ok80 : FnOK Try.prog 80 F80 := evalF_ok (E := E80) (T := B80) E80_ok mix Try.func80 rfl (by kernel_rfl) (by kernel_rfl) (fun k => by kernel_rfl) (fun k x => by kernel_rfl)
noncomputable abbrev P62 : List PT := [.val ⟨true, Y2_1, false⟩]
noncomputable abbrev R62 : List RT := [.val ⟨false, .bool, true⟩]
noncomputable def S62 (k : Nat) (i : Int × Int × Int × Int) : Option Y2_4 :=
 (bif i.1 == 0 then
  (bif i.2.1 == 0 then
   (bif i.2.2.1 == 0 then
    some ((i.2.2.2 == 0, ()), ())
   else
    some ((false, ()), ()))
  else
   some ((false, ()), ()))
 else
  (bif i.1 == 11 then
   (bif i.2.1 == 0 then
    (bif i.2.2.1 == 0 then
     some ((i.2.2.2 == 0, ()), ())
    else
     some ((false, ()), ()))
   else
    some ((false, ()), ()))
  else
   (bif i.1 == 1 then
    (S80 k 8 i.2.1).bind fun q0 =>
    (bif q0.1.1 then
     (bif i.2.2.1 == 0 then
      (bif decide (i.2.2.2 ≥ (-2147483648)) then
       some ((decide (i.2.2.2 < 2147483648), ()), ())
      else
       some ((false, ()), ()))
     else
      some ((false, ()), ()))
    else
     some ((false, ()), ()))
   else
    (bif i.1 == 2 then
     (S80 k 8 i.2.1).bind fun q1 =>
     (bif q1.1.1 then
      (S80 k 8 i.2.2.1).bind fun q2 =>
      (bif q2.1.1 then
       some ((i.2.2.2 == 0, ()), ())
      else
       some ((false, ()), ()))
     else
      some ((false, ()), ()))
    else
     (bif i.1 == 3 then
      (S80 k 8 i.2.1).bind fun q3 =>
      (bif q3.1.1 then
       (S80 k 8 i.2.2.1).bind fun q4 =>
       (bif q4.1.1 then
        some ((i.2.2.2 == 0, ()), ())
       else
        some ((false, ()), ()))
      else
       some ((false, ()), ()))
     else
      (bif i.1 == 4 then
       (S80 k 8 i.2.1).bind fun q5 =>
       (bif q5.1.1 then
        (S80 k 8 i.2.2.1).bind fun q6 =>
        (bif q6.1.1 then
         some ((i.2.2.2 == 0, ()), ())
        else
         some ((false, ()), ()))
       else
        some ((false, ()), ()))
      else
       (bif i.1 == 5 then
        (S80 k 8 i.2.1).bind fun q7 =>
        (bif q7.1.1 then
         (bif i.2.2.1 == 0 then
          (bif decide (i.2.2.2 ≥ (-63)) then
           some ((decide (i.2.2.2 ≤ 63), ()), ())
          else
           some ((false, ()), ()))
         else
          some ((false, ()), ()))
        else
         some ((false, ()), ()))
       else
        (bif i.1 == 6 then
         (S80 k 8 i.2.1).bind fun q8 =>
         (bif q8.1.1 then
          (bif i.2.2.1 == 0 then
           (bif decide (i.2.2.2 ≥ 1) then
            some ((decide (i.2.2.2 ≤ 64), ()), ())
           else
            some ((false, ()), ()))
          else
           some ((false, ()), ()))
         else
          some ((false, ()), ()))
        else
         (bif i.1 == 7 then
          (S80 k 8 i.2.1).bind fun q9 =>
          (bif q9.1.1 then
           (bif i.2.2.1 == 0 then
            (bif decide (i.2.2.2 ≥ 1) then
             some ((decide (i.2.2.2 ≤ 24), ()), ())
            else
             some ((false, ()), ()))
           else
            some ((false, ()), ()))
          else
           some ((false, ()), ()))
         else
          (bif i.1 == 8 then
           (bif i.2.1 == 0 then
            (bif decide (i.2.2.1 ≥ 1) then
             (bif decide (i.2.2.1 ≤ 24) then
              (bif decide (i.2.2.2 ≥ 1) then
               some ((decide (i.2.2.2 ≤ 20), ()), ())
              else
               some ((false, ()), ()))
             else
              some ((false, ()), ()))
            else
             some ((false, ()), ()))
           else
            some ((false, ()), ()))
          else
           (bif i.1 == 9 then
            (bif decide (i.2.1 ≥ 0) then
             (bif decide (i.2.1 < 4) then
              (bif i.2.2.1 == 0 then
               some ((i.2.2.2 == 0, ()), ())
              else
               some ((false, ()), ()))
             else
              some ((false, ()), ()))
            else
             some ((false, ()), ()))
           else
            (bif i.1 == 10 then
             (bif decide (i.2.1 ≥ 0) then
              (bif decide (i.2.1 < 4) then
               (bif i.2.2.1 == 0 then
                some ((i.2.2.2 == 0, ()), ())
               else
                some ((false, ()), ()))
              else
               some ((false, ()), ()))
             else
              some ((false, ()), ()))
            else
             some ((false, ()), ())))))))))))))
noncomputable def E62 : Env := tab.env (lk [(80, F80)]) (hintL [])
theorem E62_ok : EnvOK Try.prog E62 := envOK_of tabOK _ _ (allFn_lk (l := [(80, F80)]) ⟨ok80, trivial⟩)
noncomputable def B62 (k : Nat) : Tbl (RD R62 × MD P62) := .nil
noncomputable def F62 : Fn := ⟨P62, R62, fun k x => S62 k x.1⟩
theorem ok62 : FnOK Try.prog 62 F62 := evalF_ok (E := E62) (T := B62) E62_ok mix Try.func62 rfl (by kernel_rfl) (by kernel_rfl) (fun k => by kernel_rfl) (fun k x => by kernel_rfl)
noncomputable abbrev P69 : List PT := [.val ⟨false, Y2_13, false⟩]
noncomputable abbrev R69 : List RT := [.val ⟨false, (.sl 105 Y2_6), true⟩]
noncomputable abbrev c69_L3 : Cut := ⟨[0, 3, 4], [.cell Y2_13, .own 105 Y2_6, .cell (.int .i64)], [], 49⟩
noncomputable def l69_3 (k : Nat) (g3 : (List Y2_0) → (List Y2_2) → Int → Option Y2_14) (l_1 : List Y2_0) (out : List Y2_2) (i : Int) : Option Y2_14 :=
 (bif decide (i < (l_1.length : Int)) then
  ix l_1 i <|
  (bif (rd l_1 i (0, 0, 0, 0)).1 == 7 then
   ix l_1 i <|
   ap out ([(IntKind.i64.wrap (i + 1), IntKind.i64.wrap (i + (rd l_1 i (0, 0, 0, 0)).2.2.2), i, false)] : List Y2_2) 32 fun r0 =>
   g3 l_1 r0 (IntKind.i64.wrap (i + 1))
  else
   (bif (rd l_1 i (0, 0, 0, 0)).1 == 8 then
    ix l_1 i <|
    ap out ([(IntKind.i64.wrap (i + 1), IntKind.i64.wrap (i + (rd l_1 i (0, 0, 0, 0)).2.2.1), i, true)] : List Y2_2) 32 fun r1 =>
    g3 l_1 r1 (IntKind.i64.wrap (i + 1))
   else
    g3 l_1 out (IntKind.i64.wrap (i + 1))))
 else
  some ((out, ()), ()))
noncomputable def b69_3 (k : Nat) (g : ((Unit) × (List Y2_0) × (List Y2_2) × Int × Unit) → Option Y2_14) (d : (Unit) × (List Y2_0) × (List Y2_2) × Int × Unit) : Option Y2_14 := l69_3 k (fun l_1 out i => g ((), l_1, out, i, ())) d.2.1 d.2.2.1 d.2.2.2.1
noncomputable def L69_3 (k : Nat) (j : Nat) (l_1 : List Y2_0) (out : List Y2_2) (i : Int) : Option Y2_14 := iter (R := ((List Y2_2) × Unit) × Unit) c69_L3 (b69_3 k) j ((), l_1, out, i, ())
theorem L69_3_s (k : Nat) (j : Nat) (l_1 : List Y2_0) (out : List Y2_2) (i : Int) : L69_3 k (j + 1) l_1 out i = l69_3 k (L69_3 k j) l_1 out i := iter_succ _ _ _ _
noncomputable def S69 (k : Nat) (l_ : List Y2_0) : Option Y2_14 :=
 L69_3 k k l_ ([] : List Y2_2) 0
noncomputable def E69 : Env := tab.env (lk []) (hintL [(3, 2)])
theorem E69_ok : EnvOK Try.prog E69 := envOK_of tabOK _ _ (fun f F h => by cases h)
noncomputable def B69 (k : Nat) : Tbl (RD R69 × MD P69) := (.loop 3 c69_L3 (b69_3 k) (fun g => .nil) .nil)
noncomputable def F69 : Fn := ⟨P69, R69, fun k x => S69 k x.1⟩
theorem ok69 : FnOK Try.prog 69 F69 := evalF_ok (E := E69) (T := B69) E69_ok mix Try.func69 rfl (by kernel_rfl) (by kernel_rfl) (fun k => by kernel_rfl) (fun k x => by kernel_rfl)
noncomputable abbrev P70 : List PT := [.val ⟨true, Y2_6, false⟩, .val ⟨false, (.int .i64), false⟩]
noncomputable abbrev R70 : List RT := [.val ⟨false, .bool, true⟩]
noncomputable def S70 (k : Nat) (a : Int × Int × Int × Bool) (i : Int) : Option Y2_4 :=
 (bif decide (a.1 ≤ i) then
  some ((decide (i ≤ a.2.1), ()), ())
 else
  some ((false, ()), ()))
noncomputable def E70 : Env := tab.env (lk []) (hintL [])
theorem E70_ok : EnvOK Try.prog E70 := envOK_of tabOK _ _ (fun f F h => by cases h)
noncomputable def B70 (k : Nat) : Tbl (RD R70 × MD P70) := .nil
noncomputable def F70 : Fn := ⟨P70, R70, fun k x => S70 k x.1 x.2.1⟩
theorem ok70 : FnOK Try.prog 70 F70 := evalF_ok (E := E70) (T := B70) E70_ok mix Try.func70 rfl (by kernel_rfl) (by kernel_rfl) (fun k => by kernel_rfl) (fun k x => by kernel_rfl)
noncomputable abbrev P52 : List PT := [.val ⟨false, Y2_13, false⟩]
noncomputable abbrev R52 : List RT := [.val ⟨false, (.sl 3 (.int .i64)), true⟩, .val ⟨false, .bool, true⟩]
noncomputable abbrev c52_L10 : Cut := ⟨[0, 4, 5, 6, 7, 8], [.cell Y2_13, .own 3 (.int .i64), .own 3 (.int .i64), .own 105 Y2_6, .cell (.int .i64), .cell (.int .i64)], [], 117⟩
noncomputable def l52_10 (k : Nat) (g5 : Y2_3) (g10 : (List Y2_0) → (List Int) → (List Int) → (List Y2_2) → Int → Int → Option Y2_7) (l_2 : List Y2_0) (out1 : List Int) (open_1 : List Int) (a1 : List Y2_2) (i1 : Int) (k_ : Int) : Option Y2_7 :=
 (bif decide (k_ < (open_1.length : Int)) then
  ix open_1 k_ <|
  ix l_2 (rd open_1 k_ 0) <|
  ix l_2 i1 <|
  (bif (rd l_2 (rd open_1 k_ 0) (0, 0, 0, 0)).2.1 == (rd l_2 i1 (0, 0, 0, 0)).2.1 then
   some (([], false, ()), ())
  else
   g10 l_2 out1 open_1 a1 i1 (IntKind.i64.wrap (k_ + 1)))
 else
  ap open_1 ([i1] : List Int) 8 fun r1 =>
  (bif decide ((r1.length : Int) > 2) then
   some (([], false, ()), ())
  else
   g5 l_2 out1 r1 a1 (IntKind.i64.wrap (i1 + 1))))
noncomputable def b52_10 (k : Nat) (g5 : Y2_3) (g : ((Unit) × (List Y2_0) × (List Int) × (List Int) × (List Y2_2) × Int × Int × Unit) → Option Y2_7) (d : (Unit) × (List Y2_0) × (List Int) × (List Int) × (List Y2_2) × Int × Int × Unit) : Option Y2_7 := l52_10 k g5 (fun l_2 out1 open_1 a1 i1 k_ => g ((), l_2, out1, open_1, a1, i1, k_, ())) d.2.1 d.2.2.1 d.2.2.2.1 d.2.2.2.2.1 d.2.2.2.2.2.1 d.2.2.2.2.2.2.1
noncomputable def L52_10 (k : Nat) (g5 : Y2_3) (j : Nat) (l_2 : List Y2_0) (out1 : List Int) (open_1 : List Int) (a1 : List Y2_2) (i1 : Int) (k_ : Int) : Option Y2_7 := iter (R := ((List Int) × Bool × Unit) × Unit) c52_L10 (b52_10 k g5) j ((), l_2, out1, open_1, a1, i1, k_, ())
theorem L52_10_s (k : Nat) (g5 : Y2_3) (j : Nat) (l_2 : List Y2_0) (out1 : List Int) (open_1 : List Int) (a1 : List Y2_2) (i1 : Int) (k_ : Int) : L52_10 k g5 (j + 1) l_2 out1 open_1 a1 i1 k_ = l52_10 k g5 (L52_10 k g5 j) l_2 out1 open_1 a1 i1 k_ := iter_succ _ _ _ _
noncomputable abbrev c52_L23 : Cut := ⟨[0, 4, 5, 6, 7, 9, 10], [.cell Y2_13, .own 3 (.int .i64), .own 3 (.int .i64), .own 105 Y2_6, .cell (.int .i64), .cell (.int .i64), .cell (.int .i64)], [], 117⟩
noncomputable def l52_23 (k : Nat) (g5 : Y2_3) (g23 : (List Y2_0) → (List Int) → (List Int) → (List Y2_2) → Int → Int → Int → Option Y2_7) (l_3 : List Y2_0) (out2 : List Int) (open_2 : List Int) (a2 : List Y2_2) (i2 : Int) (k_1 : Int) (n : Int) : Option Y2_7 :=
 (bif decide (n < (a2.length : Int)) then
  ix a2 n <|
  (S70 k (rd a2 n (0, 0, 0, false)) k_1).bind fun q2 =>
  ix a2 n <|
  (S70 k (rd a2 n (0, 0, 0, false)) i2).bind fun q3 =>
  (bif !(q2.1.1 == q3.1.1) then
   some (([], false, ()), ())
  else
   g23 l_3 out2 open_2 a2 i2 k_1 (IntKind.i64.wrap (n + 1)))
 else
  ix out2 k_1 <|
  g5 l_3 (upd out2 k_1 i2) open_2 a2 (IntKind.i64.wrap (i2 + 1)))
noncomputable def b52_23 (k : Nat) (g5 : Y2_3) (g : ((Unit) × (List Y2_0) × (List Int) × (List Int) × (List Y2_2) × Int × Int × Int × Unit) → Option Y2_7) (d : (Unit) × (List Y2_0) × (List Int) × (List Int) × (List Y2_2) × Int × Int × Int × Unit) : Option Y2_7 := l52_23 k g5 (fun l_3 out2 open_2 a2 i2 k_1 n => g ((), l_3, out2, open_2, a2, i2, k_1, n, ())) d.2.1 d.2.2.1 d.2.2.2.1 d.2.2.2.2.1 d.2.2.2.2.2.1 d.2.2.2.2.2.2.1 d.2.2.2.2.2.2.2.1
noncomputable def L52_23 (k : Nat) (g5 : Y2_3) (j : Nat) (l_3 : List Y2_0) (out2 : List Int) (open_2 : List Int) (a2 : List Y2_2) (i2 : Int) (k_1 : Int) (n : Int) : Option Y2_7 := iter (R := ((List Int) × Bool × Unit) × Unit) c52_L23 (b52_23 k g5) j ((), l_3, out2, open_2, a2, i2, k_1, n, ())
theorem L52_23_s (k : Nat) (g5 : Y2_3) (j : Nat) (l_3 : List Y2_0) (out2 : List Int) (open_2 : List Int) (a2 : List Y2_2) (i2 : Int) (k_1 : Int) (n : Int) : L52_23 k g5 (j + 1) l_3 out2 open_2 a2 i2 k_1 n = l52_23 k g5 (L52_23 k g5 j) l_3 out2 open_2 a2 i2 k_1 n := iter_succ _ _ _ _
noncomputable abbrev c52_L5 : Cut := ⟨[0, 4, 5, 6, 7], [.cell Y2_13, .own 3 (.int .i64), .own 3 (.int .i64), .own 105 Y2_6, .cell (.int .i64)], [], 117⟩
noncomputable def l52_5 (k : Nat) (g5 : Y2_3) (l_1 : List Y2_0) (out : List Int) (open_ : List Int) (a : List Y2_2) (i : Int) : Option Y2_7 :=
 (bif decide (i < (l_1.length : Int)) then
  ix l_1 i <|
  (bif (rd l_1 i (0, 0, 0, 0)).1 == 9 then
   L52_10 k g5 k l_1 out open_ a i 0
  else
   (bif (rd l_1 i (0, 0, 0, 0)).1 == 10 then
    (bif (open_.length : Int) == 0 then
     some (([], false, ()), ())
    else
     ix open_ (IntKind.i64.wrap ((open_.length : Int) - 1)) <|
     ix l_1 (rd open_ (IntKind.i64.wrap ((open_.length : Int) - 1)) 0) <|
     ix l_1 i <|
     (bif (rd l_1 (rd open_ (IntKind.i64.wrap ((open_.length : Int) - 1)) 0) (0, 0, 0, 0)).2.1 != (rd l_1 i (0, 0, 0, 0)).2.1 then
      some (([], false, ()), ())
     else
      ix open_ (IntKind.i64.wrap ((open_.length : Int) - 1)) <|
      sx open_ 0 (IntKind.i64.wrap ((open_.length : Int) - 1)) <|
      L52_23 k g5 k l_1 out (open_.take (IntKind.i64.wrap ((open_.length : Int) - 1)).toNat) a i (rd open_ (IntKind.i64.wrap ((open_.length : Int) - 1)) 0) 0))
   else
    g5 l_1 out open_ a (IntKind.i64.wrap (i + 1))))
 else
  (bif decide ((open_.length : Int) > 0) then
   some (([], false, ()), ())
  else
   some ((out, true, ()), ())))
noncomputable def b52_5 (k : Nat) (g : ((Unit) × (List Y2_0) × (List Int) × (List Int) × (List Y2_2) × Int × Unit) → Option Y2_7) (d : (Unit) × (List Y2_0) × (List Int) × (List Int) × (List Y2_2) × Int × Unit) : Option Y2_7 := l52_5 k (fun l_1 out open_ a i => g ((), l_1, out, open_, a, i, ())) d.2.1 d.2.2.1 d.2.2.2.1 d.2.2.2.2.1 d.2.2.2.2.2.1
noncomputable def L52_5 (k : Nat) (j : Nat) (l_1 : List Y2_0) (out : List Int) (open_ : List Int) (a : List Y2_2) (i : Int) : Option Y2_7 := iter (R := ((List Int) × Bool × Unit) × Unit) c52_L5 (b52_5 k) j ((), l_1, out, open_, a, i, ())
theorem L52_5_s (k : Nat) (j : Nat) (l_1 : List Y2_0) (out : List Int) (open_ : List Int) (a : List Y2_2) (i : Int) : L52_5 k (j + 1) l_1 out open_ a i = l52_5 k (L52_5 k j) l_1 out open_ a i := iter_succ _ _ _ _
noncomputable def S52 (k : Nat) (l_ : List Y2_0) : Option Y2_7 :=
 mk (l_.length : Int) (l_.length : Int) 8 <|
 (S69 k l_).bind fun q0 =>
 L52_5 k k l_ (List.replicate (l_.length : Int).toNat (0 : Int)) ([] : List Int) q0.1.1 0
noncomputable def E52 : Env := tab.env (lk [(69, F69), (70, F70)]) (hintL [(5, 2), (89, 1)])
theorem E52_ok : EnvOK Try.prog E52 := envOK_of tabOK _ _ (allFn_lk (l := [(69, F69), (70, F70)]) ⟨ok69, ok70, trivial⟩)
noncomputable def B52 (k : Nat) : Tbl (RD R52 × MD P52) := (.loop 5 c52_L5 (b52_5 k) (fun g => (fun (g5 : Y2_3) => (.loop 10 c52_L10 (b52_10 k g5) (fun g => .nil) (.loop 23 c52_L23 (b52_23 k g5) (fun g => .nil) .nil))) (fun l_1 out open_ a i => g ((), l_1, out, open_, a, i, ()))) .nil)
noncomputable def F52 : Fn := ⟨P52, R52, fun k x => S52 k x.1⟩
theorem ok52 : FnOK Try.prog 52 F52 := evalF_ok (E := E52) (T := B52) E52_ok mix Try.func52 rfl (by kernel_rfl) (by kernel_rfl) (fun k => by kernel_rfl) (fun k x => by kernel_rfl)
noncomputable abbrev P71 : List PT := [.val ⟨false, Y2_13, false⟩, .val ⟨false, (.sl 3 (.int .i64)), false⟩, .val ⟨false, (.int .i64), false⟩]
noncomputable abbrev R71 : List RT := [.val ⟨false, (.int .i64), true⟩]
noncomputable abbrev c71_L3 : Cut := ⟨[0, 1, 2, 7, 8], [.cell Y2_13, .cell (.sl 3 (.int .i64)), .cell (.int .i64), .cell (.int .i64), .cell (.int .i64)], [], 37⟩
noncomputable def l71_3 (k : Nat) (g3 : (List Y2_0) → (List Int) → Int → Int → Int → Option ((Int × Unit) × Unit)) (l_1 : List Y2_0) (pairs1 : List Int) (i1 : Int) (n : Int) (k_ : Int) : Option ((Int × Unit) × Unit) :=
 (bif decide (k_ < (l_1.length : Int)) then
  ix l_1 k_ <|
  (bif (rd l_1 k_ (0, 0, 0, 0)).1 == 9 then
   (bif decide (k_ < i1) then
    ix pairs1 k_ <|
    (bif decide (i1 < (rd pairs1 k_ 0)) then
     g3 l_1 pairs1 i1 (IntKind.i64.wrap (n + 1)) (IntKind.i64.wrap (k_ + 1))
    else
     g3 l_1 pairs1 i1 n (IntKind.i64.wrap (k_ + 1)))
   else
    g3 l_1 pairs1 i1 n (IntKind.i64.wrap (k_ + 1)))
  else
   g3 l_1 pairs1 i1 n (IntKind.i64.wrap (k_ + 1)))
 else
  some ((n, ()), ()))
noncomputable def b71_3 (k : Nat) (g : ((Unit) × (List Y2_0) × (List Int) × Int × Int × Int × Unit) → Option ((Int × Unit) × Unit)) (d : (Unit) × (List Y2_0) × (List Int) × Int × Int × Int × Unit) : Option ((Int × Unit) × Unit) := l71_3 k (fun l_1 pairs1 i1 n k_ => g ((), l_1, pairs1, i1, n, k_, ())) d.2.1 d.2.2.1 d.2.2.2.1 d.2.2.2.2.1 d.2.2.2.2.2.1
noncomputable def L71_3 (k : Nat) (j : Nat) (l_1 : List Y2_0) (pairs1 : List Int) (i1 : Int) (n : Int) (k_ : Int) : Option ((Int × Unit) × Unit) := iter (R := (Int × Unit) × Unit) c71_L3 (b71_3 k) j ((), l_1, pairs1, i1, n, k_, ())
theorem L71_3_s (k : Nat) (j : Nat) (l_1 : List Y2_0) (pairs1 : List Int) (i1 : Int) (n : Int) (k_ : Int) : L71_3 k (j + 1) l_1 pairs1 i1 n k_ = l71_3 k (L71_3 k j) l_1 pairs1 i1 n k_ := iter_succ _ _ _ _
noncomputable def S71 (k : Nat) (l_ : List Y2_0) (pairs : List Int) (i : Int) : Option ((Int × Unit) × Unit) :=
 L71_3 k k l_ pairs i 0 0
noncomputable def E71 : Env := tab.env (lk []) (hintL [])
theorem E71_ok : EnvOK Try.prog E71 := envOK_of tabOK _ _ (fun f F h => by cases h)
noncomputable def B71 (k : Nat) : Tbl (RD R71 × MD P71) := (.loop 3 c71_L3 (b71_3 k) (fun g => .nil) .nil)
noncomputable def F71 : Fn := ⟨P71, R71, fun k x => S71 k x.1 x.2.1 x.2.2.1⟩
theorem ok71 : FnOK Try.prog 71 F71 := evalF_ok (E := E71) (T := B71) E71_ok mix Try.func71 rfl (by kernel_rfl) (by kernel_rfl) (fun k => by kernel_rfl) (fun k x => by kernel_rfl)
noncomputable abbrev P50 : List PT := [.val ⟨false, Y2_13, false⟩]
noncomputable abbrev R50 : List RT := [.val ⟨false, .bool, true⟩]
noncomputable abbrev c50_J20 : Cut := ⟨[0, 4, 5, 6, 7, 8], [.cell Y2_13, .own 105 Y2_6, .cell (.int .i64), .cell (.int .i64), .cell .bool, .cell .bool], [], 235⟩
noncomputable def j50_20 (k : Nat) (g10 : Y2_8) (g15 : Y2_12) (l_5 : List Y2_0) (a3 : List Y2_2) (i4 : Int) (k_2 : Int) (apart1 : Bool) (in_ : Bool) : Option Y2_4 :=
 (bif !apart1 then
  (bif !in_ then
   some ((false, ()), ())
  else
   ix a3 i4 <|
   ix a3 k_2 <|
   (S70 k (rd a3 i4 (0, 0, 0, false)) (rd a3 k_2 (0, 0, 0, false)).2.2.1).bind fun q2 =>
   (bif q2.1.1 then
    ix a3 k_2 <|
    ix a3 i4 <|
    (bif decide ((rd a3 k_2 (0, 0, 0, false)).2.1 > (rd a3 i4 (0, 0, 0, false)).2.1) then
     some ((false, ()), ())
    else
     g15 l_5 a3 i4 (IntKind.i64.wrap (k_2 + 1)))
   else
    g15 l_5 a3 i4 (IntKind.i64.wrap (k_2 + 1))))
 else
  ix a3 i4 <|
  ix a3 k_2 <|
  (S70 k (rd a3 i4 (0, 0, 0, false)) (rd a3 k_2 (0, 0, 0, false)).2.2.1).bind fun q3 =>
  (bif q3.1.1 then
   ix a3 k_2 <|
   ix a3 i4 <|
   (bif decide ((rd a3 k_2 (0, 0, 0, false)).2.1 > (rd a3 i4 (0, 0, 0, false)).2.1) then
    some ((false, ()), ())
   else
    g15 l_5 a3 i4 (IntKind.i64.wrap (k_2 + 1)))
  else
   g15 l_5 a3 i4 (IntKind.i64.wrap (k_2 + 1))))
noncomputable abbrev c50_J19 : Cut := ⟨[0, 4, 5, 6, 7], [.cell Y2_13, .own 105 Y2_6, .cell (.int .i64), .cell (.int .i64), .cell .bool], [], 235⟩
noncomputable def j50_19 (k : Nat) (g10 : Y2_8) (g15 : Y2_12) (l_4 : List Y2_0) (a2 : List Y2_2) (i3 : Int) (k_1 : Int) (apart : Bool) : Option Y2_4 :=
 ix a2 i3 <|
 ix a2 k_1 <|
 (bif decide ((rd a2 i3 (0, 0, 0, false)).1 ≤ (rd a2 k_1 (0, 0, 0, false)).1) then
  ix a2 k_1 <|
  ix a2 i3 <|
  (bif decide ((rd a2 k_1 (0, 0, 0, false)).2.1 ≤ (rd a2 i3 (0, 0, 0, false)).2.1) then
   j50_20 k g10 g15 l_4 a2 i3 k_1 apart true
  else
   ix a2 k_1 <|
   ix a2 i3 <|
   (bif decide ((rd a2 k_1 (0, 0, 0, false)).1 ≤ (rd a2 i3 (0, 0, 0, false)).1) then
    ix a2 i3 <|
    ix a2 k_1 <|
    j50_20 k g10 g15 l_4 a2 i3 k_1 apart (decide ((rd a2 i3 (0, 0, 0, false)).2.1 ≤ (rd a2 k_1 (0, 0, 0, false)).2.1))
   else
    j50_20 k g10 g15 l_4 a2 i3 k_1 apart false))
 else
  ix a2 k_1 <|
  ix a2 i3 <|
  (bif decide ((rd a2 k_1 (0, 0, 0, false)).1 ≤ (rd a2 i3 (0, 0, 0, false)).1) then
   ix a2 i3 <|
   ix a2 k_1 <|
   j50_20 k g10 g15 l_4 a2 i3 k_1 apart (decide ((rd a2 i3 (0, 0, 0, false)).2.1 ≤ (rd a2 k_1 (0, 0, 0, false)).2.1))
  else
   j50_20 k g10 g15 l_4 a2 i3 k_1 apart false))
noncomputable abbrev c50_L15 : Cut := ⟨[0, 4, 5, 6], [.cell Y2_13, .own 105 Y2_6, .cell (.int .i64), .cell (.int .i64)], [], 235⟩
noncomputable def l50_15 (k : Nat) (g10 : Y2_8) (g15 : Y2_12) (l_3 : List Y2_0) (a1 : List Y2_2) (i2 : Int) (k_ : Int) : Option Y2_4 :=
 (bif decide (k_ < (a1.length : Int)) then
  (bif i2 == k_ then
   g15 l_3 a1 i2 (IntKind.i64.wrap (k_ + 1))
  else
   ix a1 i2 <|
   ix a1 k_ <|
   (bif decide ((rd a1 i2 (0, 0, 0, false)).2.1 < (rd a1 k_ (0, 0, 0, false)).1) then
    j50_19 k g10 g15 l_3 a1 i2 k_ true
   else
    ix a1 k_ <|
    ix a1 i2 <|
    j50_19 k g10 g15 l_3 a1 i2 k_ (decide ((rd a1 k_ (0, 0, 0, false)).2.1 < (rd a1 i2 (0, 0, 0, false)).1))))
 else
  g10 l_3 a1 (IntKind.i64.wrap (i2 + 1)))
noncomputable def b50_15 (k : Nat) (g10 : Y2_8) (g : ((Unit) × (List Y2_0) × (List Y2_2) × Int × Int × Unit) → Option Y2_4) (d : (Unit) × (List Y2_0) × (List Y2_2) × Int × Int × Unit) : Option Y2_4 := l50_15 k g10 (fun l_3 a1 i2 k_ => g ((), l_3, a1, i2, k_, ())) d.2.1 d.2.2.1 d.2.2.2.1 d.2.2.2.2.1
noncomputable def L50_15 (k : Nat) (g10 : Y2_8) (j : Nat) (l_3 : List Y2_0) (a1 : List Y2_2) (i2 : Int) (k_ : Int) : Option Y2_4 := iter (R := (Bool × Unit) × Unit) c50_L15 (b50_15 k g10) j ((), l_3, a1, i2, k_, ())
theorem L50_15_s (k : Nat) (g10 : Y2_8) (j : Nat) (l_3 : List Y2_0) (a1 : List Y2_2) (i2 : Int) (k_ : Int) : L50_15 k g10 (j + 1) l_3 a1 i2 k_ = l50_15 k g10 (L50_15 k g10 j) l_3 a1 i2 k_ := iter_succ _ _ _ _
noncomputable abbrev c50_L30 : Cut := ⟨[0, 4, 9, 11, 12, 13, 14], [.cell Y2_13, .own 105 Y2_6, .own 3 (.int .i64), .cell (.int .i64), .cell (.int .i64), .cell (.int .i64), .cell (.int .i64)], [], 235⟩
noncomputable def l50_30 (k : Nat) (g26 : Y2_9) (g30 : (List Y2_0) → (List Y2_2) → (List Int) → Int → Int → Int → Int → Option Y2_4) (l_7 : List Y2_0) (a5 : List Y2_2) (pairs1 : List Int) (i6 : Int) (bodies : Int) (all : Int) (k_3 : Int) : Option Y2_4 :=
 (bif decide (k_3 < (a5.length : Int)) then
  ix a5 k_3 <|
  (S70 k (rd a5 k_3 (0, 0, 0, false)) i6).bind fun q5 =>
  (bif q5.1.1 then
   ix a5 k_3 <|
   (bif (rd a5 k_3 (0, 0, 0, false)).2.2.2 then
    g30 l_7 a5 pairs1 i6 (IntKind.i64.wrap (bodies + 1)) (IntKind.i64.wrap (all + 1)) (IntKind.i64.wrap (k_3 + 1))
   else
    g30 l_7 a5 pairs1 i6 bodies (IntKind.i64.wrap (all + 1)) (IntKind.i64.wrap (k_3 + 1)))
  else
   g30 l_7 a5 pairs1 i6 bodies all (IntKind.i64.wrap (k_3 + 1)))
 else
  (bif decide (bodies > 2) then
   some ((false, ()), ())
  else
   ix l_7 i6 <|
   (bif (rd l_7 i6 (0, 0, 0, 0)).1 == 11 then
    (bif decide (all > 0) then
     some ((false, ()), ())
    else
     (S71 k l_7 pairs1 i6).bind fun q6 =>
     (bif decide (q6.1.1 > 0) then
      some ((false, ()), ())
     else
      g26 l_7 a5 pairs1 (IntKind.i64.wrap (i6 + 1))))
   else
    g26 l_7 a5 pairs1 (IntKind.i64.wrap (i6 + 1)))))
noncomputable def b50_30 (k : Nat) (g26 : Y2_9) (g : ((Unit) × (List Y2_0) × (List Y2_2) × (List Int) × Int × Int × Int × Int × Unit) → Option Y2_4) (d : (Unit) × (List Y2_0) × (List Y2_2) × (List Int) × Int × Int × Int × Int × Unit) : Option Y2_4 := l50_30 k g26 (fun l_7 a5 pairs1 i6 bodies all k_3 => g ((), l_7, a5, pairs1, i6, bodies, all, k_3, ())) d.2.1 d.2.2.1 d.2.2.2.1 d.2.2.2.2.1 d.2.2.2.2.2.1 d.2.2.2.2.2.2.1 d.2.2.2.2.2.2.2.1
noncomputable def L50_30 (k : Nat) (g26 : Y2_9) (j : Nat) (l_7 : List Y2_0) (a5 : List Y2_2) (pairs1 : List Int) (i6 : Int) (bodies : Int) (all : Int) (k_3 : Int) : Option Y2_4 := iter (R := (Bool × Unit) × Unit) c50_L30 (b50_30 k g26) j ((), l_7, a5, pairs1, i6, bodies, all, k_3, ())
theorem L50_30_s (k : Nat) (g26 : Y2_9) (j : Nat) (l_7 : List Y2_0) (a5 : List Y2_2) (pairs1 : List Int) (i6 : Int) (bodies : Int) (all : Int) (k_3 : Int) : L50_30 k g26 (j + 1) l_7 a5 pairs1 i6 bodies all k_3 = l50_30 k g26 (L50_30 k g26 j) l_7 a5 pairs1 i6 bodies all k_3 := iter_succ _ _ _ _
noncomputable abbrev c50_L26 : Cut := ⟨[0, 4, 9, 11], [.cell Y2_13, .own 105 Y2_6, .own 3 (.int .i64), .cell (.int .i64)], [], 235⟩
noncomputable def l50_26 (k : Nat) (g26 : Y2_9) (l_6 : List Y2_0) (a4 : List Y2_2) (pairs : List Int) (i5 : Int) : Option Y2_4 :=
 (bif decide (i5 < (l_6.length : Int)) then
  L50_30 k g26 k l_6 a4 pairs i5 0 0 0
 else
  some ((true, ()), ()))
noncomputable def b50_26 (k : Nat) (g : ((Unit) × (List Y2_0) × (List Y2_2) × (List Int) × Int × Unit) → Option Y2_4) (d : (Unit) × (List Y2_0) × (List Y2_2) × (List Int) × Int × Unit) : Option Y2_4 := l50_26 k (fun l_6 a4 pairs i5 => g ((), l_6, a4, pairs, i5, ())) d.2.1 d.2.2.1 d.2.2.2.1 d.2.2.2.2.1
noncomputable def L50_26 (k : Nat) (j : Nat) (l_6 : List Y2_0) (a4 : List Y2_2) (pairs : List Int) (i5 : Int) : Option Y2_4 := iter (R := (Bool × Unit) × Unit) c50_L26 (b50_26 k) j ((), l_6, a4, pairs, i5, ())
theorem L50_26_s (k : Nat) (j : Nat) (l_6 : List Y2_0) (a4 : List Y2_2) (pairs : List Int) (i5 : Int) : L50_26 k (j + 1) l_6 a4 pairs i5 = l50_26 k (L50_26 k j) l_6 a4 pairs i5 := iter_succ _ _ _ _
noncomputable abbrev c50_L10 : Cut := ⟨[0, 4, 5], [.cell Y2_13, .own 105 Y2_6, .cell (.int .i64)], [], 235⟩
noncomputable def l50_10 (k : Nat) (g10 : Y2_8) (l_2 : List Y2_0) (a : List Y2_2) (i1 : Int) : Option Y2_4 :=
 (bif decide (i1 < (a.length : Int)) then
  ix a i1 <|
  (bif decide ((rd a i1 (0, 0, 0, false)).2.1 ≥ (IntKind.i64.wrap ((l_2.length : Int) - 1))) then
   some ((false, ()), ())
  else
   L50_15 k g10 k l_2 a i1 0)
 else
  (S52 k l_2).bind fun q4 =>
  (bif !q4.1.2.1 then
   some ((false, ()), ())
  else
   L50_26 k k l_2 a q4.1.1 0))
noncomputable def b50_10 (k : Nat) (g : ((Unit) × (List Y2_0) × (List Y2_2) × Int × Unit) → Option Y2_4) (d : (Unit) × (List Y2_0) × (List Y2_2) × Int × Unit) : Option Y2_4 := l50_10 k (fun l_2 a i1 => g ((), l_2, a, i1, ())) d.2.1 d.2.2.1 d.2.2.2.1
noncomputable def L50_10 (k : Nat) (j : Nat) (l_2 : List Y2_0) (a : List Y2_2) (i1 : Int) : Option Y2_4 := iter (R := (Bool × Unit) × Unit) c50_L10 (b50_10 k) j ((), l_2, a, i1, ())
theorem L50_10_s (k : Nat) (j : Nat) (l_2 : List Y2_0) (a : List Y2_2) (i1 : Int) : L50_10 k (j + 1) l_2 a i1 = l50_10 k (L50_10 k j) l_2 a i1 := iter_succ _ _ _ _
noncomputable abbrev c50_L4 : Cut := ⟨[0, 3], [.cell Y2_13, .cell (.int .i64)], [], 235⟩
noncomputable def l50_4 (k : Nat) (g4 : (List Y2_0) → Int → Option Y2_4) (l_1 : List Y2_0) (i : Int) : Option Y2_4 :=
 (bif decide (i < (l_1.length : Int)) then
  ix l_1 i <|
  (S62 k (rd l_1 i (0, 0, 0, 0))).bind fun q0 =>
  (bif !q0.1.1 then
   some ((false, ()), ())
  else
   ix l_1 i <|
   (bif !(((rd l_1 i (0, 0, 0, 0)).1 == 0) == (i == (IntKind.i64.wrap ((l_1.length : Int) - 1)))) then
    some ((false, ()), ())
   else
    g4 l_1 (IntKind.i64.wrap (i + 1))))
 else
  (S69 k l_1).bind fun q1 =>
  L50_10 k k l_1 q1.1.1 0)
noncomputable def b50_4 (k : Nat) (g : ((Unit) × (List Y2_0) × Int × Unit) → Option Y2_4) (d : (Unit) × (List Y2_0) × Int × Unit) : Option Y2_4 := l50_4 k (fun l_1 i => g ((), l_1, i, ())) d.2.1 d.2.2.1
noncomputable def L50_4 (k : Nat) (j : Nat) (l_1 : List Y2_0) (i : Int) : Option Y2_4 := iter (R := (Bool × Unit) × Unit) c50_L4 (b50_4 k) j ((), l_1, i, ())
theorem L50_4_s (k : Nat) (j : Nat) (l_1 : List Y2_0) (i : Int) : L50_4 k (j + 1) l_1 i = l50_4 k (L50_4 k j) l_1 i := iter_succ _ _ _ _
noncomputable def S50 (k : Nat) (l_ : List Y2_0) : Option Y2_4 :=
 (bif decide ((l_.length : Int) < 1) then
  some ((false, ()), ())
 else
  (bif decide ((l_.length : Int) > 24) then
   some ((false, ()), ())
  else
   L50_4 k k l_ 0))
noncomputable def E50 : Env := tab.env (lk [(52, F52), (62, F62), (69, F69), (70, F70), (71, F71)]) (hintL [])
theorem E50_ok : EnvOK Try.prog E50 := envOK_of tabOK _ _ (allFn_lk (l := [(52, F52), (62, F62), (69, F69), (70, F70), (71, F71)]) ⟨ok52, ok62, ok69, ok70, ok71, trivial⟩)
noncomputable def B50 (k : Nat) : Tbl (RD R50 × MD P50) := (.loop 26 c50_L26 (b50_26 k) (fun g => (fun (g26 : Y2_9) => (.loop 30 c50_L30 (b50_30 k g26) (fun g => .nil) .nil)) (fun l_6 a4 pairs i5 => g ((), l_6, a4, pairs, i5, ()))) (.loop 10 c50_L10 (b50_10 k) (fun g => (fun (g10 : Y2_8) => (.loop 15 c50_L15 (b50_15 k g10) (fun g => (fun (g15 : Y2_12) => (.join 20 c50_J20 (fun d => j50_20 k g10 g15 d.2.1 d.2.2.1 d.2.2.2.1 d.2.2.2.2.1 d.2.2.2.2.2.1 d.2.2.2.2.2.2.1) (.join 19 c50_J19 (fun d => j50_19 k g10 g15 d.2.1 d.2.2.1 d.2.2.2.1 d.2.2.2.2.1 d.2.2.2.2.2.1) .nil))) (fun l_3 a1 i2 k_ => g ((), l_3, a1, i2, k_, ()))) .nil)) (fun l_2 a i1 => g ((), l_2, a, i1, ()))) (.loop 4 c50_L4 (b50_4 k) (fun g => .nil) .nil)))
noncomputable def F50 : Fn := ⟨P50, R50, fun k x => S50 k x.1⟩
theorem ok50 : FnOK Try.prog 50 F50 := evalF_ok (E := E50) (T := B50) E50_ok mix Try.func50 rfl (by kernel_rfl) (by kernel_rfl) (fun k => by kernel_rfl) (fun k x => by kernel_rfl)
end Go.Proofs.Ythmicjldfdadjaa.Ab
