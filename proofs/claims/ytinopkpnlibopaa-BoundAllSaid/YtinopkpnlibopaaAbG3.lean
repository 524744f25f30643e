import Derived.Test.YtinopkpnlibopaaAbG2
/- Contracts, printed by this session's own program gen.py. -/
set_option linter.unusedVariables false
set_option linter.unusedSimpArgs false
set_option maxRecDepth 100000
namespace Go.Proofs.Ytinopkpnlibopaa.Ab
open Go.RowKit
abbrev Y3_0 : Type := Int × Int × Int × Int
abbrev Y3_1 : Ty := .pair (.int .i64) (.pair (.int .i64) (.pair (.int .i64) (.int .i64)))
abbrev Y3_2 : Type := Int × Int × Int × Bool
abbrev Y3_3 : Type := (List Y3_0) → (List Int) → (List Int) → (List Y3_2) → Int → Option (((List Int) × Bool × Unit) × Unit)
abbrev Y3_4 : Type := (Bool × Unit) × Unit
abbrev Y3_5 : Type := ((List Y3_0) × Unit) × ((List Int) × Int × Unit) × Unit
abbrev Y3_6 : Ty := .pair (.int .i64) (.pair (.int .i64) (.pair (.int .i64) .bool))
abbrev Y3_7 : Type := ((List Int) × Bool × Unit) × Unit
abbrev Y3_8 : Type := (List Y3_0) → (List Y3_2) → Int → Option Y3_4
abbrev Y3_9 : Type := (List Y3_0) → (List Y3_2) → (List Int) → Int → Option Y3_4
abbrev Y3_10 : Type := (List Int) × Int × Unit
abbrev Y3_11 : Type := (List Int) → Int → Int → (List Y3_0) → Int → Option Y3_5
abbrev Y3_12 : Type := (List Y3_0) → (List Y3_2) → Int → Int → Option Y3_4
abbrev Y3_13 : Ty := .sl 60 Y3_1
abbrev Y3_14 : Type := ((List Y3_2) × Unit) × Unit
abbrev Y3_15 : Ty := .sl 5 (.int .u8)
noncomputable abbrev P33 : List PT := [.mbox 79 [.cell Y3_15, .cell (.int .i64)], .val ⟨false, (.int .i64), false⟩]
noncomputable abbrev R33 : List RT := [.val ⟨false, (.int .i64), true⟩]
noncomputable def S33 (k : Nat) (p : List Int) (p1 : Int) (m : Int) : Option ((Int × Unit) × Y3_10 × Unit) :=
 (bif decide (p1 ≥ (p.length : Int)) then
  some ((0, ()), (p, p1, ()), ())
 else
  ix p (IntKind.i64.wrap ((IntKind.i64.wrap (p1 + 1)) - 1)) <|
  nz m <|
  some ((Int.tmod (IntKind.i64.wrap (rd p (IntKind.i64.wrap ((IntKind.i64.wrap (p1 + 1)) - 1)) 0)) m, ()), (p, IntKind.i64.wrap (p1 + 1), ()), ()))
noncomputable def E33 : Env := tab.env (lk []) (hintL [])
theorem E33_ok : EnvOK Try.prog E33 := envOK_of tabOK _ _ (fun f F h => by cases h)
noncomputable def B33 (k : Nat) : Tbl (RD R33 × MD P33) := .nil
noncomputable def F33 : Fn := ⟨P33, R33, fun k x => S33 k x.1.1 x.1.2.1 x.2.1⟩
theorem ok33 : FnOK Try.prog 33 F33 := evalF_ok (E := E33) (T := B33) E33_ok mix Try.func33 rfl (by kernel_rfl) (by kernel_rfl) (fun k => by kernel_rfl) (fun k x => by kernel_rfl)
noncomputable abbrev P86 : List PT := [.mbox 79 [.cell Y3_15, .cell (.int .i64)]]
noncomputable abbrev R86 : List RT := [.val ⟨true, Y3_1, true⟩]
noncomputable def S86 (k : Nat) (p : List Int) (p1 : Int) : Option ((Y3_0 × Unit) × Y3_10 × Unit) :=
 (S33 k p p1 3).bind fun q0 =>
 (S33 k q0.2.1.1 q0.2.1.2.1 3).bind fun q1 =>
 (S33 k q1.2.1.1 q1.2.1.2.1 6).bind fun q2 =>
 (bif q2.1.1 == 0 then
  (S33 k q2.2.1.1 q2.2.1.2.1 9).bind fun q3 =>
  some (((1, q0.1.1, 0, IntKind.i64.wrap (q3.1.1 - 4)), ()), (q3.2.1.1, q3.2.1.2.1, ()), ())
 else
  (bif q2.1.1 == 1 then
   some (((2, q0.1.1, q1.1.1, 0), ()), (q2.2.1.1, q2.2.1.2.1, ()), ())
  else
   (bif q2.1.1 == 2 then
    some (((3, q0.1.1, q1.1.1, 0), ()), (q2.2.1.1, q2.2.1.2.1, ()), ())
   else
    (bif q2.1.1 == 3 then
     some (((4, q0.1.1, q1.1.1, 0), ()), (q2.2.1.1, q2.2.1.2.1, ()), ())
    else
     (bif q2.1.1 == 4 then
      (S33 k q2.2.1.1 q2.2.1.2.1 7).bind fun q4 =>
      some (((5, q0.1.1, 0, IntKind.i64.wrap (q4.1.1 - 3)), ()), (q4.2.1.1, q4.2.1.2.1, ()), ())
     else
      (S33 k q2.2.1.1 q2.2.1.2.1 64).bind fun q5 =>
      some (((6, q0.1.1, 0, IntKind.i64.wrap (1 + q5.1.1)), ()), (q5.2.1.1, q5.2.1.2.1, ()), ()))))))
noncomputable def E86 : Env := tab.env (lk [(33, F33)]) (hintL [])
theorem E86_ok : EnvOK Try.prog E86 := envOK_of tabOK _ _ (allFn_lk (l := [(33, F33)]) ⟨ok33, trivial⟩)
noncomputable def B86 (k : Nat) : Tbl (RD R86 × MD P86) := .nil
noncomputable def F86 : Fn := ⟨P86, R86, fun k x => S86 k x.1.1 x.1.2.1⟩
theorem ok86 : FnOK Try.prog 86 F86 := evalF_ok (E := E86) (T := B86) E86_ok mix Try.func86 rfl (by kernel_rfl) (by kernel_rfl) (fun k => by kernel_rfl) (fun k x => by kernel_rfl)
noncomputable abbrev P63 : List PT := [.mbox 79 [.cell Y3_15, .cell (.int .i64)], .val ⟨false, (.int .i64), false⟩, .val ⟨false, (.int .i64), false⟩]
noncomputable abbrev R63 : List RT := [.val ⟨false, Y3_13, true⟩]
noncomputable abbrev c63_L3 : Cut := ⟨[0, 2, 7, 8], [.pin false 0, .cell (.int .i64), .own 60 Y3_1, .cell (.int .i64)], [.mbox 79 [.cell Y3_15, .cell (.int .i64)]], 47⟩
noncomputable def l63_3 (k : Nat) (g3 : Y3_11) (p2 : List Int) (p3 : Int) (locks1 : Int) (l_ : List Y3_0) (i : Int) : Option Y3_5 :=
 (bif decide (i > 0) then
  (bif decide (locks1 > 0) then
   (S33 k p2 p3 4).bind fun q1 =>
   (bif q1.1.1 == 0 then
    (S33 k q1.2.1.1 q1.2.1.2.1 locks1).bind fun q2 =>
    ap l_ ([(9, q2.1.1, 0, 0)] : List Y3_0) 32 fun r3 =>
    (S86 k q2.2.1.1 q2.2.1.2.1).bind fun q4 =>
    ap r3 ([q4.1.1] : List Y3_0) 32 fun r5 =>
    ap r5 ([(10, q2.1.1, 0, 0)] : List Y3_0) 32 fun r6 =>
    g3 q4.2.1.1 q4.2.1.2.1 locks1 r6 (IntKind.i64.wrap (i - 1))
   else
    (S86 k q1.2.1.1 q1.2.1.2.1).bind fun q7 =>
    ap l_ ([q7.1.1] : List Y3_0) 32 fun r8 =>
    g3 q7.2.1.1 q7.2.1.2.1 locks1 r8 (IntKind.i64.wrap (i - 1)))
  else
   (S86 k p2 p3).bind fun q9 =>
   ap l_ ([q9.1.1] : List Y3_0) 32 fun r10 =>
   g3 q9.2.1.1 q9.2.1.2.1 locks1 r10 (IntKind.i64.wrap (i - 1)))
 else
  some ((l_, ()), (p2, p3, ()), ()))
noncomputable def b63_3 (k : Nat) (g : ((Y3_10 × Unit) × Unit × Int × (List Y3_0) × Int × Unit) → Option Y3_5) (d : (Y3_10 × Unit) × Unit × Int × (List Y3_0) × Int × Unit) : Option Y3_5 := l63_3 k (fun p2 p3 locks1 l_ i => g (((p2, p3, ()), ()), (), locks1, l_, i, ())) d.1.1.1 d.1.1.2.1 d.2.2.1 d.2.2.2.1 d.2.2.2.2.1
noncomputable def L63_3 (k : Nat) (j : Nat) (p2 : List Int) (p3 : Int) (locks1 : Int) (l_ : List Y3_0) (i : Int) : Option Y3_5 := iter (R := ((List Y3_0) × Unit) × Y3_10 × Unit) c63_L3 (b63_3 k) j (((p2, p3, ()), ()), (), locks1, l_, i, ())
theorem L63_3_s (k : Nat) (j : Nat) (p2 : List Int) (p3 : Int) (locks1 : Int) (l_ : List Y3_0) (i : Int) : L63_3 k (j + 1) p2 p3 locks1 l_ i = l63_3 k (L63_3 k j) p2 p3 locks1 l_ i := iter_succ _ _ _ _
noncomputable def S63 (k : Nat) (p : List Int) (p1 : Int) (most : Int) (locks : Int) : Option Y3_5 :=
 (S33 k p p1 most).bind fun q0 =>
 L63_3 k k q0.2.1.1 q0.2.1.2.1 locks ([] : List Y3_0) (IntKind.i64.wrap (q0.1.1 + 1))
noncomputable def E63 : Env := tab.env (lk [(33, F33), (86, F86)]) (hintL [(7, 2)])
theorem E63_ok : EnvOK Try.prog E63 := envOK_of tabOK _ _ (allFn_lk (l := [(33, F33), (86, F86)]) ⟨ok33, ok86, trivial⟩)
noncomputable def B63 (k : Nat) : Tbl (RD R63 × MD P63) := (.loop 3 c63_L3 (b63_3 k) (fun g => .nil) .nil)
noncomputable def F63 : Fn := ⟨P63, R63, fun k x => S63 k x.1.1 x.1.2.1 x.2.1 x.2.2.1⟩
theorem ok63 : FnOK Try.prog 63 F63 := evalF_ok (E := E63) (T := B63) E63_ok mix Try.func63 rfl (by kernel_rfl) (by kernel_rfl) (fun k => by kernel_rfl) (fun k x => by kernel_rfl)
noncomputable abbrev P46 : List PT := [.mbox 79 [.cell Y3_15, .cell (.int .i64)], .val ⟨false, (.int .i64), false⟩]
noncomputable abbrev R46 : List RT := [.val ⟨false, Y3_13, true⟩]
noncomputable abbrev c46_J16 : Cut := ⟨[0, 1, 5, 6, 7], [.pin false 0, .cell (.int .i64), .own 60 Y3_1, .cell (.int .i64), .own 60 Y3_1], [.mbox 79 [.cell Y3_15, .cell (.int .i64)]], 66⟩
noncomputable def j46_16 (k : Nat) (g3 : Y3_11) (p4 : List Int) (p5 : Int) (locks2 : Int) (l_1 : List Y3_0) (i1 : Int) (x : List Y3_0) : Option Y3_5 :=
 (bif decide ((IntKind.i64.wrap ((l_1.length : Int) + (x.length : Int))) < 23) then
  ap l_1 x 32 fun r9 =>
  g3 p4 p5 locks2 r9 (IntKind.i64.wrap (i1 - 1))
 else
  g3 p4 p5 locks2 l_1 (IntKind.i64.wrap (i1 - 1)))
noncomputable abbrev c46_L3 : Cut := ⟨[0, 1, 5, 6], [.pin false 0, .cell (.int .i64), .own 60 Y3_1, .cell (.int .i64)], [.mbox 79 [.cell Y3_15, .cell (.int .i64)]], 66⟩
noncomputable def l46_3 (k : Nat) (g3 : Y3_11) (p2 : List Int) (p3 : Int) (locks1 : Int) (l_ : List Y3_0) (i : Int) : Option Y3_5 :=
 (bif decide (i > 0) then
  (S33 k p2 p3 5).bind fun q1 =>
  (bif q1.1.1 == 0 then
   (S63 k q1.2.1.1 q1.2.1.2.1 2 locks1).bind fun q2 =>
   (S33 k q2.2.1.1 q2.2.1.2.1 3).bind fun q3 =>
   ap ([(8, 0, (q2.1.1.length : Int), IntKind.i64.wrap (1 + q3.1.1))] : List Y3_0) q2.1.1 32 fun r4 =>
   j46_16 k g3 q3.2.1.1 q3.2.1.2.1 locks1 l_ i r4
  else
   (bif q1.1.1 == 1 then
    (S63 k q1.2.1.1 q1.2.1.2.1 2 locks1).bind fun q5 =>
    (S33 k q5.2.1.1 q5.2.1.2.1 3).bind fun q6 =>
    ap ([(7, q6.1.1, 0, (q5.1.1.length : Int))] : List Y3_0) q5.1.1 32 fun r7 =>
    j46_16 k g3 q6.2.1.1 q6.2.1.2.1 locks1 l_ i r7
   else
    (bif q1.1.1 == 2 then
     j46_16 k g3 q1.2.1.1 q1.2.1.2.1 locks1 l_ i ([(11, 0, 0, 0)] : List Y3_0)
    else
     (S63 k q1.2.1.1 q1.2.1.2.1 2 locks1).bind fun q8 =>
     j46_16 k g3 q8.2.1.1 q8.2.1.2.1 locks1 l_ i q8.1.1)))
 else
  ap l_ ([(0, 0, 0, 0)] : List Y3_0) 32 fun r10 =>
  some ((r10, ()), (p2, p3, ()), ()))
noncomputable def b46_3 (k : Nat) (g : ((Y3_10 × Unit) × Unit × Int × (List Y3_0) × Int × Unit) → Option Y3_5) (d : (Y3_10 × Unit) × Unit × Int × (List Y3_0) × Int × Unit) : Option Y3_5 := l46_3 k (fun p2 p3 locks1 l_ i => g (((p2, p3, ()), ()), (), locks1, l_, i, ())) d.1.1.1 d.1.1.2.1 d.2.2.1 d.2.2.2.1 d.2.2.2.2.1
noncomputable def L46_3 (k : Nat) (j : Nat) (p2 : List Int) (p3 : Int) (locks1 : Int) (l_ : List Y3_0) (i : Int) : Option Y3_5 := iter (R := ((List Y3_0) × Unit) × Y3_10 × Unit) c46_L3 (b46_3 k) j (((p2, p3, ()), ()), (), locks1, l_, i, ())
theorem L46_3_s (k : Nat) (j : Nat) (p2 : List Int) (p3 : Int) (locks1 : Int) (l_ : List Y3_0) (i : Int) : L46_3 k (j + 1) p2 p3 locks1 l_ i = l46_3 k (L46_3 k j) p2 p3 locks1 l_ i := iter_succ _ _ _ _
noncomputable def S46 (k : Nat) (p : List Int) (p1 : Int) (locks : Int) : Option Y3_5 :=
 (S33 k p p1 4).bind fun q0 =>
 L46_3 k k q0.2.1.1 q0.2.1.2.1 locks ([] : List Y3_0) (IntKind.i64.wrap (q0.1.1 + 1))
noncomputable def E46 : Env := tab.env (lk [(33, F33), (63, F63)]) (hintL [(5, 2)])
theorem E46_ok : EnvOK Try.prog E46 := envOK_of tabOK _ _ (allFn_lk (l := [(33, F33), (63, F63)]) ⟨ok33, ok63, trivial⟩)
noncomputable def B46 (k : Nat) : Tbl (RD R46 × MD P46) := (.loop 3 c46_L3 (b46_3 k) (fun g => (fun (g3 : Y3_11) => (.join 16 c46_J16 (fun d => j46_16 k g3 d.1.1.1 d.1.1.2.1 d.2.2.1 d.2.2.2.1 d.2.2.2.2.1 d.2.2.2.2.2.1) .nil)) (fun p2 p3 locks1 l_ i => g (((p2, p3, ()), ()), (), locks1, l_, i, ()))) .nil)
noncomputable def F46 : Fn := ⟨P46, R46, fun k x => S46 k x.1.1 x.1.2.1 x.2.1⟩
theorem ok46 : FnOK Try.prog 46 F46 := evalF_ok (E := E46) (T := B46) E46_ok mix Try.func46 rfl (by kernel_rfl) (by kernel_rfl) (fun k => by kernel_rfl) (fun k x => by kernel_rfl)
noncomputable abbrev P25 : List PT := [.mbox 79 [.cell Y3_15, .cell (.int .i64)], .val ⟨false, (.int .i64), false⟩, .val ⟨false, (.int .i64), false⟩]
noncomputable abbrev R25 : List RT := [.val ⟨true, (.pair (.int .i64) (.pair (.int .i64) (.pair (.int .i64) (.pair Y3_13 (.pair Y3_13 Y3_13))))), false⟩]
noncomputable abbrev c25_J6 : Cut := ⟨[0, 6, 7], [.pin false 0, .box 36 [.cell (.int .i64), .cell (.int .i64), .cell (.int .i64), .nil, .nil, .nil], .box 36 [.cell (.int .i64), .cell (.int .i64), .cell (.int .i64), .own 60 Y3_1, .cell Y3_13, .own 60 Y3_1]], [.mbox 79 [.cell Y3_15, .cell (.int .i64)]], 41⟩
noncomputable def j25_6 (k : Nat) (p2 : List Int) (p3 : Int) (t6 : Int) (t6_1 : Int) (t6_2 : Int) (t : Int) (t1 : Int) (t2 : Int) (t3 : List Y3_0) (t4 : List Y3_0) (t5 : List Y3_0) : Option (((Int × Int × Int × (List Y3_0) × (List Y3_0) × List Y3_0) × Unit) × Y3_10 × Unit) :=
 (S33 k p2 p3 3).bind fun q5 =>
 (bif q5.1.1 == 0 then
  (S46 k q5.2.1.1 q5.2.1.2.1 0).bind fun q6 =>
  some (((t, t1, t2, t3, t4, q6.1.1), ()), (q6.2.1.1, q6.2.1.2.1, ()), ())
 else
  some (((t, t1, t2, t3, t4, t5), ()), (q5.2.1.1, q5.2.1.2.1, ()), ()))
noncomputable def S25 (k : Nat) (p : List Int) (p1 : Int) (rank : Int) (locks : Int) : Option (((Int × Int × Int × (List Y3_0) × (List Y3_0) × List Y3_0) × Unit) × Y3_10 × Unit) :=
 (S46 k p p1 locks).bind fun q0 =>
 (S33 k q0.2.1.1 q0.2.1.2.1 12).bind fun q1 =>
 (S33 k q1.2.1.1 q1.2.1.2.1 10).bind fun q2 =>
 (S33 k q2.2.1.1 q2.2.1.2.1 3).bind fun q3 =>
 (bif q3.1.1 == 0 then
  (S33 k q3.2.1.1 q3.2.1.2.1 2).bind fun q4 =>
  sx ([(1, 0, 0, 99), (0, 0, 0, 0)] : List Y3_0) q4.1.1 (([(1, 0, 0, 99), (0, 0, 0, 0)] : List Y3_0).length : Int) <|
  j25_6 k q4.2.1.1 q4.2.1.2.1 0 0 0 rank (IntKind.i64.wrap (20 + (IntKind.i64.wrap (10 * q1.1.1)))) (IntKind.i64.wrap ((IntKind.i64.wrap (20 + (IntKind.i64.wrap (10 * q1.1.1)))) - q2.1.1)) q0.1.1 (sub ([(1, 0, 0, 99), (0, 0, 0, 0)] : List Y3_0) q4.1.1 (([(1, 0, 0, 99), (0, 0, 0, 0)] : List Y3_0).length : Int)) ([] : List Y3_0)
 else
  j25_6 k q3.2.1.1 q3.2.1.2.1 0 0 0 rank (IntKind.i64.wrap (20 + (IntKind.i64.wrap (10 * q1.1.1)))) (IntKind.i64.wrap ((IntKind.i64.wrap (20 + (IntKind.i64.wrap (10 * q1.1.1)))) - q2.1.1)) q0.1.1 ([] : List Y3_0) ([] : List Y3_0))
noncomputable def E25 : Env := tab.env (lk [(33, F33), (46, F46)]) (hintL [(12, 2)])
theorem E25_ok : EnvOK Try.prog E25 := envOK_of tabOK _ _ (allFn_lk (l := [(33, F33), (46, F46)]) ⟨ok33, ok46, trivial⟩)
noncomputable def B25 (k : Nat) : Tbl (RD R25 × MD P25) := (.join 6 c25_J6 (fun d => j25_6 k d.1.1.1 d.1.1.2.1 d.2.2.1.1 d.2.2.1.2.1 d.2.2.1.2.2.1 d.2.2.2.1.1 d.2.2.2.1.2.1 d.2.2.2.1.2.2.1 d.2.2.2.1.2.2.2.1 d.2.2.2.1.2.2.2.2.1 d.2.2.2.1.2.2.2.2.2.1) .nil)
noncomputable def F25 : Fn := ⟨P25, R25, fun k x => S25 k x.1.1 x.1.2.1 x.2.1 x.2.2.1⟩
theorem ok25 : FnOK Try.prog 25 F25 := evalF_ok (E := E25) (T := B25) E25_ok mix Try.func25 rfl (by kernel_rfl) (by kernel_rfl) (fun k => by kernel_rfl) (fun k x => by kernel_rfl)
noncomputable abbrev P99 : List PT := [.val ⟨true, (.int .i64), false⟩, .val ⟨false, (.int .i64), false⟩]
noncomputable abbrev R99 : List RT := [.val ⟨false, .bool, true⟩]
noncomputable def S99 (k : Nat) (f : Int) (a : Int) : Option Y3_4 :=
 (bif decide (a ≥ 0) then
  some ((decide (a < f), ()), ())
 else
  some ((false, ()), ()))
noncomputable def E99 : Env := tab.env (lk []) (hintL [])
theorem E99_ok : EnvOK Try.prog E99 := envOK_of tabOK _ _ (fun f F h => by cases h)
noncomputable def B99 (k : Nat) : Tbl (RD R99 × MD P99) := .nil
noncomputable def F99 : Fn := ⟨P99, R99, fun k x => S99 k x.1 x.2.1⟩
theorem ok99 : FnOK Try.prog 99 F99 := evalF_ok (E := E99) (T := B99) E99_ok mix Try.func99 rfl (by kernel_rfl) (by kernel_rfl) (fun k => by kernel_rfl) (fun k x => by kernel_rfl)
noncomputable abbrev P82 : List PT := [.val ⟨true, Y3_1, false⟩]
noncomputable abbrev R82 : List RT := [.val ⟨false, .bool, true⟩]
noncomputable def S82 (k : Nat) (i : Int × Int × Int × Int) : Option Y3_4 :=
 (bif i.1 == 0 then
  (bif i.2.1 == 0 then
   (bif i.2.2.1 == 0 then
    some ((i.2.2.2 == 0, ()), ())
   else
    some ((false, ()), ()))
  else
   some ((false, ()), ()))
 else
  (bif i.1 == 11 then
   (bif i.2.1 == 0 then
    (bif i.2.2.1 == 0 then
     some ((i.2.2.2 == 0, ()), ())
    else
     some ((false, ()), ()))
   else
    some ((false, ()), ()))
  else
   (bif i.1 == 1 then
    (S99 k 8 i.2.1).bind fun q0 =>
    (bif q0.1.1 then
     (bif i.2.2.1 == 0 then
      (bif decide (i.2.2.2 ≥ (-2147483648)) then
       some ((decide (i.2.2.2 < 2147483648), ()), ())
      else
       some ((false, ()), ()))
     else
      some ((false, ()), ()))
    else
     some ((false, ()), ()))
   else
    (bif i.1 == 2 then
     (S99 k 8 i.2.1).bind fun q1 =>
     (bif q1.1.1 then
      (S99 k 8 i.2.2.1).bind fun q2 =>
      (bif q2.1.1 then
       some ((i.2.2.2 == 0, ()), ())
      else
       some ((false, ()), ()))
     else
      some ((false, ()), ()))
    else
     (bif i.1 == 3 then
      (S99 k 8 i.2.1).bind fun q3 =>
      (bif q3.1.1 then
       (S99 k 8 i.2.2.1).bind fun q4 =>
       (bif q4.1.1 then
        some ((i.2.2.2 == 0, ()), ())
       else
        some ((false, ()), ()))
      else
       some ((false, ()), ()))
     else
      (bif i.1 == 4 then
       (S99 k 8 i.2.1).bind fun q5 =>
       (bif q5.1.1 then
        (S99 k 8 i.2.2.1).bind fun q6 =>
        (bif q6.1.1 then
         some ((i.2.2.2 == 0, ()), ())
        else
         some ((false, ()), ()))
       else
        some ((false, ()), ()))
      else
       (bif i.1 == 5 then
        (S99 k 8 i.2.1).bind fun q7 =>
        (bif q7.1.1 then
         (bif i.2.2.1 == 0 then
          (bif decide (i.2.2.2 ≥ (-63)) then
           some ((decide (i.2.2.2 ≤ 63), ()), ())
          else
           some ((false, ()), ()))
         else
          some ((false, ()), ()))
        else
         some ((false, ()), ()))
       else
        (bif i.1 == 6 then
         (S99 k 8 i.2.1).bind fun q8 =>
         (bif q8.1.1 then
          (bif i.2.2.1 == 0 then
           (bif decide (i.2.2.2 ≥ 1) then
            some ((decide (i.2.2.2 ≤ 64), ()), ())
           else
            some ((false, ()), ()))
          else
           some ((false, ()), ()))
         else
          some ((false, ()), ()))
        else
         (bif i.1 == 7 then
          (S99 k 8 i.2.1).bind fun q9 =>
          (bif q9.1.1 then
           (bif i.2.2.1 == 0 then
            (bif decide (i.2.2.2 ≥ 1) then
             some ((decide (i.2.2.2 ≤ 24), ()), ())
            else
             some ((false, ()), ()))
           else
            some ((false, ()), ()))
          else
           some ((false, ()), ()))
         else
          (bif i.1 == 8 then
           (bif i.2.1 == 0 then
            (bif decide (i.2.2.1 ≥ 1) then
             (bif decide (i.2.2.1 ≤ 24) then
              (bif decide (i.2.2.2 ≥ 1) then
               some ((decide (i.2.2.2 ≤ 20), ()), ())
              else
               some ((false, ()), ()))
             else
              some ((false, ()), ()))
            else
             some ((false, ()), ()))
           else
            some ((false, ()), ()))
          else
           (bif i.1 == 9 then
            (bif decide (i.2.1 ≥ 0) then
             (bif decide (i.2.1 < 4) then
              (bif i.2.2.1 == 0 then
               some ((i.2.2.2 == 0, ()), ())
              else
               some ((false, ()), ()))
             else
              some ((false, ()), ()))
            else
             some ((false, ()), ()))
           else
            (bif i.1 == 10 then
             (bif decide (i.2.1 ≥ 0) then
              (bif decide (i.2.1 < 4) then
               (bif i.2.2.1 == 0 then
                some ((i.2.2.2 == 0, ()), ())
               else
                some ((false, ()), ()))
              else
               some ((false, ()), ()))
             else
              some ((false, ()), ()))
            else
             some ((false, ()), ())))))))))))))
noncomputable def E82 : Env := tab.env (lk [(99, F99)]) (hintL [])
theorem E82_ok : EnvOK Try.prog E82 := envOK_of tabOK _ _ (allFn_lk (l := [(99, F99)]) ⟨ok99, trivial⟩)
noncomputable def B82 (k : Nat) : Tbl (RD R82 × MD P82) := .nil
noncomputable def F82 : Fn := ⟨P82, R82, fun k x => S82 k x.1⟩
theorem ok82 : FnOK Try.prog 82 F82 := evalF_ok (E := E82) (T := B82) E82_ok mix Try.func82 rfl (by kernel_rfl) (by kernel_rfl) (fun k => by kernel_rfl) (fun k x => by kernel_rfl)
noncomputable abbrev P83 : List PT := [.val ⟨false, Y3_13, false⟩]
noncomputable abbrev R83 : List RT := [.val ⟨false, (.sl 114 Y3_6), true⟩]
noncomputable abbrev c83_L3 : Cut := ⟨[0, 3, 4], [.cell Y3_13, .own 114 Y3_6, .cell (.int .i64)], [], 49⟩
noncomputable def l83_3 (k : Nat) (g3 : (List Y3_0) → (List Y3_2) → Int → Option Y3_14) (l_1 : List Y3_0) (out : List Y3_2) (i : Int) : Option Y3_14 :=
 (bif decide (i < (l_1.length : Int)) then
  ix l_1 i <|
  (bif (rd l_1 i (0, 0, 0, 0)).1 == 7 then
   ix l_1 i <|
   ap out ([(IntKind.i64.wrap (i + 1), IntKind.i64.wrap (i + (rd l_1 i (0, 0, 0, 0)).2.2.2), i, false)] : List Y3_2) 32 fun r0 =>
   g3 l_1 r0 (IntKind.i64.wrap (i + 1))
  else
   (bif (rd l_1 i (0, 0, 0, 0)).1 == 8 then
    ix l_1 i <|
    ap out ([(IntKind.i64.wrap (i + 1), IntKind.i64.wrap (i + (rd l_1 i (0, 0, 0, 0)).2.2.1), i, true)] : List Y3_2) 32 fun r1 =>
    g3 l_1 r1 (IntKind.i64.wrap (i + 1))
   else
    g3 l_1 out (IntKind.i64.wrap (i + 1))))
 else
  some ((out, ()), ()))
noncomputable def b83_3 (k : Nat) (g : ((Unit) × (List Y3_0) × (List Y3_2) × Int × Unit) → Option Y3_14) (d : (Unit) × (List Y3_0) × (List Y3_2) × Int × Unit) : Option Y3_14 := l83_3 k (fun l_1 out i => g ((), l_1, out, i, ())) d.2.1 d.2.2.1 d.2.2.2.1
noncomputable def L83_3 (k : Nat) (j : Nat) (l_1 : List Y3_0) (out : List Y3_2) (i : Int) : Option Y3_14 := iter (R := ((List Y3_2) × Unit) × Unit) c83_L3 (b83_3 k) j ((), l_1, out, i, ())
theorem L83_3_s (k : Nat) (j : Nat) (l_1 : List Y3_0) (out : List Y3_2) (i : Int) : L83_3 k (j + 1) l_1 out i = l83_3 k (L83_3 k j) l_1 out i := iter_succ _ _ _ _
noncomputable def S83 (k : Nat) (l_ : List Y3_0) : Option Y3_14 :=
 L83_3 k k l_ ([] : List Y3_2) 0
noncomputable def E83 : Env := tab.env (lk []) (hintL [(3, 2)])
theorem E83_ok : EnvOK Try.prog E83 := envOK_of tabOK _ _ (fun f F h => by cases h)
noncomputable def B83 (k : Nat) : Tbl (RD R83 × MD P83) := (.loop 3 c83_L3 (b83_3 k) (fun g => .nil) .nil)
noncomputable def F83 : Fn := ⟨P83, R83, fun k x => S83 k x.1⟩
theorem ok83 : FnOK Try.prog 83 F83 := evalF_ok (E := E83) (T := B83) E83_ok mix Try.func83 rfl (by kernel_rfl) (by kernel_rfl) (fun k => by kernel_rfl) (fun k x => by kernel_rfl)
noncomputable abbrev P84 : List PT := [.val ⟨true, Y3_6, false⟩, .val ⟨false, (.int .i64), false⟩]
noncomputable abbrev R84 : List RT := [.val ⟨false, .bool, true⟩]
noncomputable def S84 (k : Nat) (a : Int × Int × Int × Bool) (i : Int) : Option Y3_4 :=
 (bif decide (a.1 ≤ i) then
  some ((decide (i ≤ a.2.1), ()), ())
 else
  some ((false, ()), ()))
noncomputable def E84 : Env := tab.env (lk []) (hintL [])
theorem E84_ok : EnvOK Try.prog E84 := envOK_of tabOK _ _ (fun f F h => by cases h)
noncomputable def B84 (k : Nat) : Tbl (RD R84 × MD P84) := .nil
noncomputable def F84 : Fn := ⟨P84, R84, fun k x => S84 k x.1 x.2.1⟩
theorem ok84 : FnOK Try.prog 84 F84 := evalF_ok (E := E84) (T := B84) E84_ok mix Try.func84 rfl (by kernel_rfl) (by kernel_rfl) (fun k => by kernel_rfl) (fun k x => by kernel_rfl)
noncomputable abbrev P62 : List PT := [.val ⟨false, Y3_13, false⟩]
noncomputable abbrev R62 : List RT := [.val ⟨false, (.sl 3 (.int .i64)), true⟩, .val ⟨false, .bool, true⟩]
noncomputable abbrev c62_L10 : Cut := ⟨[0, 4, 5, 6, 7, 8], [.cell Y3_13, .own 3 (.int .i64), .own 3 (.int .i64), .own 114 Y3_6, .cell (.int .i64), .cell (.int .i64)], [], 117⟩
noncomputable def l62_10 (k : Nat) (g5 : Y3_3) (g10 : (List Y3_0) → (List Int) → (List Int) → (List Y3_2) → Int → Int → Option Y3_7) (l_2 : List Y3_0) (out1 : List Int) (open_1 : List Int) (a1 : List Y3_2) (i1 : Int) (k_ : Int) : Option Y3_7 :=
 (bif decide (k_ < (open_1.length : Int)) then
  ix open_1 k_ <|
  ix l_2 (rd open_1 k_ 0) <|
  ix l_2 i1 <|
  (bif (rd l_2 (rd open_1 k_ 0) (0, 0, 0, 0)).2.1 == (rd l_2 i1 (0, 0, 0, 0)).2.1 then
   some (([], false, ()), ())
  else
   g10 l_2 out1 open_1 a1 i1 (IntKind.i64.wrap (k_ + 1)))
 else
  ap open_1 ([i1] : List Int) 8 fun r1 =>
  (bif decide ((r1.length : Int) > 2) then
   some (([], false, ()), ())
  else
   g5 l_2 out1 r1 a1 (IntKind.i64.wrap (i1 + 1))))
noncomputable def b62_10 (k : Nat) (g5 : Y3_3) (g : ((Unit) × (List Y3_0) × (List Int) × (List Int) × (List Y3_2) × Int × Int × Unit) → Option Y3_7) (d : (Unit) × (List Y3_0) × (List Int) × (List Int) × (List Y3_2) × Int × Int × Unit) : Option Y3_7 := l62_10 k g5 (fun l_2 out1 open_1 a1 i1 k_ => g ((), l_2, out1, open_1, a1, i1, k_, ())) d.2.1 d.2.2.1 d.2.2.2.1 d.2.2.2.2.1 d.2.2.2.2.2.1 d.2.2.2.2.2.2.1
noncomputable def L62_10 (k : Nat) (g5 : Y3_3) (j : Nat) (l_2 : List Y3_0) (out1 : List Int) (open_1 : List Int) (a1 : List Y3_2) (i1 : Int) (k_ : Int) : Option Y3_7 := iter (R := ((List Int) × Bool × Unit) × Unit) c62_L10 (b62_10 k g5) j ((), l_2, out1, open_1, a1, i1, k_, ())
theorem L62_10_s (k : Nat) (g5 : Y3_3) (j : Nat) (l_2 : List Y3_0) (out1 : List Int) (open_1 : List Int) (a1 : List Y3_2) (i1 : Int) (k_ : Int) : L62_10 k g5 (j + 1) l_2 out1 open_1 a1 i1 k_ = l62_10 k g5 (L62_10 k g5 j) l_2 out1 open_1 a1 i1 k_ := iter_succ _ _ _ _
noncomputable abbrev c62_L23 : Cut := ⟨[0, 4, 5, 6, 7, 9, 10], [.cell Y3_13, .own 3 (.int .i64), .own 3 (.int .i64), .own 114 Y3_6, .cell (.int .i64), .cell (.int .i64), .cell (.int .i64)], [], 117⟩
noncomputable def l62_23 (k : Nat) (g5 : Y3_3) (g23 : (List Y3_0) → (List Int) → (List Int) → (List Y3_2) → Int → Int → Int → Option Y3_7) (l_3 : List Y3_0) (out2 : List Int) (open_2 : List Int) (a2 : List Y3_2) (i2 : Int) (k_1 : Int) (n : Int) : Option Y3_7 :=
 (bif decide (n < (a2.length : Int)) then
  ix a2 n <|
  (S84 k (rd a2 n (0, 0, 0, false)) k_1).bind fun q2 =>
  ix a2 n <|
  (S84 k (rd a2 n (0, 0, 0, false)) i2).bind fun q3 =>
  (bif !(q2.1.1 == q3.1.1) then
   some (([], false, ()), ())
  else
   g23 l_3 out2 open_2 a2 i2 k_1 (IntKind.i64.wrap (n + 1)))
 else
  ix out2 k_1 <|
  g5 l_3 (upd out2 k_1 i2) open_2 a2 (IntKind.i64.wrap (i2 + 1)))
noncomputable def b62_23 (k : Nat) (g5 : Y3_3) (g : ((Unit) × (List Y3_0) × (List Int) × (List Int) × (List Y3_2) × Int × Int × Int × Unit) → Option Y3_7) (d : (Unit) × (List Y3_0) × (List Int) × (List Int) × (List Y3_2) × Int × Int × Int × Unit) : Option Y3_7 := l62_23 k g5 (fun l_3 out2 open_2 a2 i2 k_1 n => g ((), l_3, out2, open_2, a2, i2, k_1, n, ())) d.2.1 d.2.2.1 d.2.2.2.1 d.2.2.2.2.1 d.2.2.2.2.2.1 d.2.2.2.2.2.2.1 d.2.2.2.2.2.2.2.1
noncomputable def L62_23 (k : Nat) (g5 : Y3_3) (j : Nat) (l_3 : List Y3_0) (out2 : List Int) (open_2 : List Int) (a2 : List Y3_2) (i2 : Int) (k_1 : Int) (n : Int) : Option Y3_7 := iter (R := ((List Int) × Bool × Unit) × Unit) c62_L23 (b62_23 k g5) j ((), l_3, out2, open_2, a2, i2, k_1, n, ())
theorem L62_23_s (k : Nat) (g5 : Y3_3) (j : Nat) (l_3 : List Y3_0) (out2 : List Int) (open_2 : List Int) (a2 : List Y3_2) (i2 : Int) (k_1 : Int) (n : Int) : L62_23 k g5 (j + 1) l_3 out2 open_2 a2 i2 k_1 n = l62_23 k g5 (L62_23 k g5 j) l_3 out2 open_2 a2 i2 k_1 n := iter_succ _ _ _ _
noncomputable abbrev c62_L5 : Cut := ⟨[0, 4, 5, 6, 7], [.cell Y3_13, .own 3 (.int .i64), .own 3 (.int .i64), .own 114 Y3_6, .cell (.int .i64)], [], 117⟩
noncomputable def l62_5 (k : Nat) (g5 : Y3_3) (l_1 : List Y3_0) (out : List Int) (open_ : List Int) (a : List Y3_2) (i : Int) : Option Y3_7 :=
 (bif decide (i < (l_1.length : Int)) then
  ix l_1 i <|
  (bif (rd l_1 i (0, 0, 0, 0)).1 == 9 then
   L62_10 k g5 k l_1 out open_ a i 0
  else
   (bif (rd l_1 i (0, 0, 0, 0)).1 == 10 then
    (bif (open_.length : Int) == 0 then
     some (([], false, ()), ())
    else
     ix open_ (IntKind.i64.wrap ((open_.length : Int) - 1)) <|
     ix l_1 (rd open_ (IntKind.i64.wrap ((open_.length : Int) - 1)) 0) <|
     ix l_1 i <|
     (bif (rd l_1 (rd open_ (IntKind.i64.wrap ((open_.length : Int) - 1)) 0) (0, 0, 0, 0)).2.1 != (rd l_1 i (0, 0, 0, 0)).2.1 then
      some (([], false, ()), ())
     else
      ix open_ (IntKind.i64.wrap ((open_.length : Int) - 1)) <|
      sx open_ 0 (IntKind.i64.wrap ((open_.length : Int) - 1)) <|
      L62_23 k g5 k l_1 out (open_.take (IntKind.i64.wrap ((open_.length : Int) - 1)).toNat) a i (rd open_ (IntKind.i64.wrap ((open_.length : Int) - 1)) 0) 0))
   else
    g5 l_1 out open_ a (IntKind.i64.wrap (i + 1))))
 else
  (bif decide ((open_.length : Int) > 0) then
   some (([], false, ()), ())
  else
   some ((out, true, ()), ())))
noncomputable def b62_5 (k : Nat) (g : ((Unit) × (List Y3_0) × (List Int) × (List Int) × (List Y3_2) × Int × Unit) → Option Y3_7) (d : (Unit) × (List Y3_0) × (List Int) × (List Int) × (List Y3_2) × Int × Unit) : Option Y3_7 := l62_5 k (fun l_1 out open_ a i => g ((), l_1, out, open_, a, i, ())) d.2.1 d.2.2.1 d.2.2.2.1 d.2.2.2.2.1 d.2.2.2.2.2.1
noncomputable def L62_5 (k : Nat) (j : Nat) (l_1 : List Y3_0) (out : List Int) (open_ : List Int) (a : List Y3_2) (i : Int) : Option Y3_7 := iter (R := ((List Int) × Bool × Unit) × Unit) c62_L5 (b62_5 k) j ((), l_1, out, open_, a, i, ())
theorem L62_5_s (k : Nat) (j : Nat) (l_1 : List Y3_0) (out : List Int) (open_ : List Int) (a : List Y3_2) (i : Int) : L62_5 k (j + 1) l_1 out open_ a i = l62_5 k (L62_5 k j) l_1 out open_ a i := iter_succ _ _ _ _
noncomputable def S62 (k : Nat) (l_ : List Y3_0) : Option Y3_7 :=
 mk (l_.length : Int) (l_.length : Int) 8 <|
 (S83 k l_).bind fun q0 =>
 L62_5 k k l_ (List.replicate (l_.length : Int).toNat (0 : Int)) ([] : List Int) q0.1.1 0
noncomputable def E62 : Env := tab.env (lk [(83, F83), (84, F84)]) (hintL [(5, 2), (89, 1)])
theorem E62_ok : EnvOK Try.prog E62 := envOK_of tabOK _ _ (allFn_lk (l := [(83, F83), (84, F84)]) ⟨ok83, ok84, trivial⟩)
noncomputable def B62 (k : Nat) : Tbl (RD R62 × MD P62) := (.loop 5 c62_L5 (b62_5 k) (fun g => (fun (g5 : Y3_3) => (.loop 10 c62_L10 (b62_10 k g5) (fun g => .nil) (.loop 23 c62_L23 (b62_23 k g5) (fun g => .nil) .nil))) (fun l_1 out open_ a i => g ((), l_1, out, open_, a, i, ()))) .nil)
noncomputable def F62 : Fn := ⟨P62, R62, fun k x => S62 k x.1⟩
theorem ok62 : FnOK Try.prog 62 F62 := evalF_ok (E := E62) (T := B62) E62_ok mix Try.func62 rfl (by kernel_rfl) (by kernel_rfl) (fun k => by kernel_rfl) (fun k x => by kernel_rfl)
noncomputable abbrev P85 : List PT := [.val ⟨false, Y3_13, false⟩, .val ⟨false, (.sl 3 (.int .i64)), false⟩, .val ⟨false, (.int .i64), false⟩]
noncomputable abbrev R85 : List RT := [.val ⟨false, (.int .i64), true⟩]
noncomputable abbrev c85_L3 : Cut := ⟨[0, 1, 2, 7, 8], [.cell Y3_13, .cell (.sl 3 (.int .i64)), .cell (.int .i64), .cell (.int .i64), .cell (.int .i64)], [], 37⟩
noncomputable def l85_3 (k : Nat) (g3 : (List Y3_0) → (List Int) → Int → Int → Int → Option ((Int × Unit) × Unit)) (l_1 : List Y3_0) (pairs1 : List Int) (i1 : Int) (n : Int) (k_ : Int) : Option ((Int × Unit) × Unit) :=
 (bif decide (k_ < (l_1.length : Int)) then
  ix l_1 k_ <|
  (bif (rd l_1 k_ (0, 0, 0, 0)).1 == 9 then
   (bif decide (k_ < i1) then
    ix pairs1 k_ <|
    (bif decide (i1 < (rd pairs1 k_ 0)) then
     g3 l_1 pairs1 i1 (IntKind.i64.wrap (n + 1)) (IntKind.i64.wrap (k_ + 1))
    else
     g3 l_1 pairs1 i1 n (IntKind.i64.wrap (k_ + 1)))
   else
    g3 l_1 pairs1 i1 n (IntKind.i64.wrap (k_ + 1)))
  else
   g3 l_1 pairs1 i1 n (IntKind.i64.wrap (k_ + 1)))
 else
  some ((n, ()), ()))
noncomputable def b85_3 (k : Nat) (g : ((Unit) × (List Y3_0) × (List Int) × Int × Int × Int × Unit) → Option ((Int × Unit) × Unit)) (d : (Unit) × (List Y3_0) × (List Int) × Int × Int × Int × Unit) : Option ((Int × Unit) × Unit) := l85_3 k (fun l_1 pairs1 i1 n k_ => g ((), l_1, pairs1, i1, n, k_, ())) d.2.1 d.2.2.1 d.2.2.2.1 d.2.2.2.2.1 d.2.2.2.2.2.1
noncomputable def L85_3 (k : Nat) (j : Nat) (l_1 : List Y3_0) (pairs1 : List Int) (i1 : Int) (n : Int) (k_ : Int) : Option ((Int × Unit) × Unit) := iter (R := (Int × Unit) × Unit) c85_L3 (b85_3 k) j ((), l_1, pairs1, i1, n, k_, ())
theorem L85_3_s (k : Nat) (j : Nat) (l_1 : List Y3_0) (pairs1 : List Int) (i1 : Int) (n : Int) (k_ : Int) : L85_3 k (j + 1) l_1 pairs1 i1 n k_ = l85_3 k (L85_3 k j) l_1 pairs1 i1 n k_ := iter_succ _ _ _ _
noncomputable def S85 (k : Nat) (l_ : List Y3_0) (pairs : List Int) (i : Int) : Option ((Int × Unit) × Unit) :=
 L85_3 k k l_ pairs i 0 0
noncomputable def E85 : Env := tab.env (lk []) (hintL [])
theorem E85_ok : EnvOK Try.prog E85 := envOK_of tabOK _ _ (fun f F h => by cases h)
noncomputable def B85 (k : Nat) : Tbl (RD R85 × MD P85) := (.loop 3 c85_L3 (b85_3 k) (fun g => .nil) .nil)
noncomputable def F85 : Fn := ⟨P85, R85, fun k x => S85 k x.1 x.2.1 x.2.2.1⟩
theorem ok85 : FnOK Try.prog 85 F85 := evalF_ok (E := E85) (T := B85) E85_ok mix Try.func85 rfl (by kernel_rfl) (by kernel_rfl) (fun k => by kernel_rfl) (fun k x => by kernel_rfl)
noncomputable abbrev P60 : List PT := [.val ⟨false, Y3_13, false⟩]
noncomputable abbrev R60 : List RT := [.val ⟨false, .bool, true⟩]
noncomputable abbrev c60_J20 : Cut := ⟨[0, 4, 5, 6, 7, 8], [.cell Y3_13, .own 114 Y3_6, .cell (.int .i64), .cell (.int .i64), .cell .bool, .cell .bool], [], 235⟩
noncomputable def j60_20 (k : Nat) (g10 : Y3_8) (g15 : Y3_12) (l_5 : List Y3_0) (a3 : List Y3_2) (i4 : Int) (k_2 : Int) (apart1 : Bool) (in_ : Bool) : Option Y3_4 :=
 (bif !apart1 then
  (bif !in_ then
   some ((false, ()), ())
  else
   ix a3 i4 <|
   ix a3 k_2 <|
   (S84 k (rd a3 i4 (0, 0, 0, false)) (rd a3 k_2 (0, 0, 0, false)).2.2.1).bind fun q2 =>
   (bif q2.1.1 then
    ix a3 k_2 <|
    ix a3 i4 <|
    (bif decide ((rd a3 k_2 (0, 0, 0, false)).2.1 > (rd a3 i4 (0, 0, 0, false)).2.1) then
     some ((false, ()), ())
    else
     g15 l_5 a3 i4 (IntKind.i64.wrap (k_2 + 1)))
   else
    g15 l_5 a3 i4 (IntKind.i64.wrap (k_2 + 1))))
 else
  ix a3 i4 <|
  ix a3 k_2 <|
  (S84 k (rd a3 i4 (0, 0, 0, false)) (rd a3 k_2 (0, 0, 0, false)).2.2.1).bind fun q3 =>
  (bif q3.1.1 then
   ix a3 k_2 <|
   ix a3 i4 <|
   (bif decide ((rd a3 k_2 (0, 0, 0, false)).2.1 > (rd a3 i4 (0, 0, 0, false)).2.1) then
    some ((false, ()), ())
   else
    g15 l_5 a3 i4 (IntKind.i64.wrap (k_2 + 1)))
  else
   g15 l_5 a3 i4 (IntKind.i64.wrap (k_2 + 1))))
noncomputable abbrev c60_J19 : Cut := ⟨[0, 4, 5, 6, 7], [.cell Y3_13, .own 114 Y3_6, .cell (.int .i64), .cell (.int .i64), .cell .bool], [], 235⟩
noncomputable def j60_19 (k : Nat) (g10 : Y3_8) (g15 : Y3_12) (l_4 : List Y3_0) (a2 : List Y3_2) (i3 : Int) (k_1 : Int) (apart : Bool) : Option Y3_4 :=
 ix a2 i3 <|
 ix a2 k_1 <|
 (bif decide ((rd a2 i3 (0, 0, 0, false)).1 ≤ (rd a2 k_1 (0, 0, 0, false)).1) then
  ix a2 k_1 <|
  ix a2 i3 <|
  (bif decide ((rd a2 k_1 (0, 0, 0, false)).2.1 ≤ (rd a2 i3 (0, 0, 0, false)).2.1) then
   j60_20 k g10 g15 l_4 a2 i3 k_1 apart true
  else
   ix a2 k_1 <|
   ix a2 i3 <|
   (bif decide ((rd a2 k_1 (0, 0, 0, false)).1 ≤ (rd a2 i3 (0, 0, 0, false)).1) then
    ix a2 i3 <|
    ix a2 k_1 <|
    j60_20 k g10 g15 l_4 a2 i3 k_1 apart (decide ((rd a2 i3 (0, 0, 0, false)).2.1 ≤ (rd a2 k_1 (0, 0, 0, false)).2.1))
   else
    j60_20 k g10 g15 l_4 a2 i3 k_1 apart false))
 else
  ix a2 k_1 <|
  ix a2 i3 <|
  (bif decide ((rd a2 k_1 (0, 0, 0, false)).1 ≤ (rd a2 i3 (0, 0, 0, false)).1) then
   ix a2 i3 <|
   ix a2 k_1 <|
   j60_20 k g10 g15 l_4 a2 i3 k_1 apart (decide ((rd a2 i3 (0, 0, 0, false)).2.1 ≤ (rd a2 k_1 (0, 0, 0, false)).2.1))
  else
   j60_20 k g10 g15 l_4 a2 i3 k_1 apart false))
noncomputable abbrev c60_L15 : Cut := ⟨[0, 4, 5, 6], [.cell Y3_13, .own 114 Y3_6, .cell (.int .i64), .cell (.int .i64)], [], 235⟩
noncomputable def l60_15 (k : Nat) (g10 : Y3_8) (g15 : Y3_12) (l_3 : List Y3_0) (a1 : List Y3_2) (i2 : Int) (k_ : Int) : Option Y3_4 :=
 (bif decide (k_ < (a1.length : Int)) then
  (bif i2 == k_ then
   g15 l_3 a1 i2 (IntKind.i64.wrap (k_ + 1))
  else
   ix a1 i2 <|
   ix a1 k_ <|
   (bif decide ((rd a1 i2 (0, 0, 0, false)).2.1 < (rd a1 k_ (0, 0, 0, false)).1) then
    j60_19 k g10 g15 l_3 a1 i2 k_ true
   else
    ix a1 k_ <|
    ix a1 i2 <|
    j60_19 k g10 g15 l_3 a1 i2 k_ (decide ((rd a1 k_ (0, 0, 0, false)).2.1 < (rd a1 i2 (0, 0, 0, false)).1))))
 else
  g10 l_3 a1 (IntKind.i64.wrap (i2 + 1)))
noncomputable def b60_15 (k : Nat) (g10 : Y3_8) (g : ((Unit) × (List Y3_0) × (List Y3_2) × Int × Int × Unit) → Option Y3_4) (d : (Unit) × (List Y3_0) × (List Y3_2) × Int × Int × Unit) : Option Y3_4 := l60_15 k g10 (fun l_3 a1 i2 k_ => g ((), l_3, a1, i2, k_, ())) d.2.1 d.2.2.1 d.2.2.2.1 d.2.2.2.2.1
noncomputable def L60_15 (k : Nat) (g10 : Y3_8) (j : Nat) (l_3 : List Y3_0) (a1 : List Y3_2) (i2 : Int) (k_ : Int) : Option Y3_4 := iter (R := (Bool × Unit) × Unit) c60_L15 (b60_15 k g10) j ((), l_3, a1, i2, k_, ())
theorem L60_15_s (k : Nat) (g10 : Y3_8) (j : Nat) (l_3 : List Y3_0) (a1 : List Y3_2) (i2 : Int) (k_ : Int) : L60_15 k g10 (j + 1) l_3 a1 i2 k_ = l60_15 k g10 (L60_15 k g10 j) l_3 a1 i2 k_ := iter_succ _ _ _ _
noncomputable abbrev c60_L30 : Cut := ⟨[0, 4, 9, 11, 12, 13, 14], [.cell Y3_13, .own 114 Y3_6, .own 3 (.int .i64), .cell (.int .i64), .cell (.int .i64), .cell (.int .i64), .cell (.int .i64)], [], 235⟩
noncomputable def l60_30 (k : Nat) (g26 : Y3_9) (g30 : (List Y3_0) → (List Y3_2) → (List Int) → Int → Int → Int → Int → Option Y3_4) (l_7 : List Y3_0) (a5 : List Y3_2) (pairs1 : List Int) (i6 : Int) (bodies : Int) (all : Int) (k_3 : Int) : Option Y3_4 :=
 (bif decide (k_3 < (a5.length : Int)) then
  ix a5 k_3 <|
  (S84 k (rd a5 k_3 (0, 0, 0, false)) i6).bind fun q5 =>
  (bif q5.1.1 then
   ix a5 k_3 <|
   (bif (rd a5 k_3 (0, 0, 0, false)).2.2.2 then
    g30 l_7 a5 pairs1 i6 (IntKind.i64.wrap (bodies + 1)) (IntKind.i64.wrap (all + 1)) (IntKind.i64.wrap (k_3 + 1))
   else
    g30 l_7 a5 pairs1 i6 bodies (IntKind.i64.wrap (all + 1)) (IntKind.i64.wrap (k_3 + 1)))
  else
   g30 l_7 a5 pairs1 i6 bodies all (IntKind.i64.wrap (k_3 + 1)))
 else
  (bif decide (bodies > 2) then
   some ((false, ()), ())
  else
   ix l_7 i6 <|
   (bif (rd l_7 i6 (0, 0, 0, 0)).1 == 11 then
    (bif decide (all > 0) then
     some ((false, ()), ())
    else
     (S85 k l_7 pairs1 i6).bind fun q6 =>
     (bif decide (q6.1.1 > 0) then
      some ((false, ()), ())
     else
      g26 l_7 a5 pairs1 (IntKind.i64.wrap (i6 + 1))))
   else
    g26 l_7 a5 pairs1 (IntKind.i64.wrap (i6 + 1)))))
noncomputable def b60_30 (k : Nat) (g26 : Y3_9) (g : ((Unit) × (List Y3_0) × (List Y3_2) × (List Int) × Int × Int × Int × Int × Unit) → Option Y3_4) (d : (Unit) × (List Y3_0) × (List Y3_2) × (List Int) × Int × Int × Int × Int × Unit) : Option Y3_4 := l60_30 k g26 (fun l_7 a5 pairs1 i6 bodies all k_3 => g ((), l_7, a5, pairs1, i6, bodies, all, k_3, ())) d.2.1 d.2.2.1 d.2.2.2.1 d.2.2.2.2.1 d.2.2.2.2.2.1 d.2.2.2.2.2.2.1 d.2.2.2.2.2.2.2.1
noncomputable def L60_30 (k : Nat) (g26 : Y3_9) (j : Nat) (l_7 : List Y3_0) (a5 : List Y3_2) (pairs1 : List Int) (i6 : Int) (bodies : Int) (all : Int) (k_3 : Int) : Option Y3_4 := iter (R := (Bool × Unit) × Unit) c60_L30 (b60_30 k g26) j ((), l_7, a5, pairs1, i6, bodies, all, k_3, ())
theorem L60_30_s (k : Nat) (g26 : Y3_9) (j : Nat) (l_7 : List Y3_0) (a5 : List Y3_2) (pairs1 : List Int) (i6 : Int) (bodies : Int) (all : Int) (k_3 : Int) : L60_30 k g26 (j + 1) l_7 a5 pairs1 i6 bodies all k_3 = l60_30 k g26 (L60_30 k g26 j) l_7 a5 pairs1 i6 bodies all k_3 := iter_succ _ _ _ _
noncomputable abbrev c60_L26 : Cut := ⟨[0, 4, 9, 11], [.cell Y3_13, .own 114 Y3_6, .own 3 (.int .i64), .cell (.int .i64)], [], 235⟩
noncomputable def l60_26 (k : Nat) (g26 : Y3_9) (l_6 : List Y3_0) (a4 : List Y3_2) (pairs : List Int) (i5 : Int) : Option Y3_4 :=
 (bif decide (i5 < (l_6.length : Int)) then
  L60_30 k g26 k l_6 a4 pairs i5 0 0 0
 else
  some ((true, ()), ()))
noncomputable def b60_26 (k : Nat) (g : ((Unit) × (List Y3_0) × (List Y3_2) × (List Int) × Int × Unit) → Option Y3_4) (d : (Unit) × (List Y3_0) × (List Y3_2) × (List Int) × Int × Unit) : Option Y3_4 := l60_26 k (fun l_6 a4 pairs i5 => g ((), l_6, a4, pairs, i5, ())) d.2.1 d.2.2.1 d.2.2.2.1 d.2.2.2.2.1
noncomputable def L60_26 (k : Nat) (j : Nat) (l_6 : List Y3_0) (a4 : List Y3_2) (pairs : List Int) (i5 : Int) : Option Y3_4 := iter (R := (Bool × Unit) × Unit) c60_L26 (b60_26 k) j ((), l_6, a4, pairs, i5, ())
theorem L60_26_s (k : Nat) (j : Nat) (l_6 : List Y3_0) (a4 : List Y3_2) (pairs : List Int) (i5 : Int) : L60_26 k (j + 1) l_6 a4 pairs i5 = l60_26 k (L60_26 k j) l_6 a4 pairs i5 := iter_succ _ _ _ _
noncomputable abbrev c60_L10 : Cut := ⟨[0, 4, 5], [.cell Y3_13, .own 114 Y3_6, .cell (.int .i64)], [], 235⟩
noncomputable def l60_10 (k : Nat) (g10 : Y3_8) (l_2 : List Y3_0) (a : List Y3_2) (i1 : Int) : Option Y3_4 :=
 (bif decide (i1 < (a.length : Int)) then
  ix a i1 <|
  (bif decide ((rd a i1 (0, 0, 0, false)).2.1 ≥ (IntKind.i64.wrap ((l_2.length : Int) - 1))) then
   some ((false, ()), ())
  else
   L60_15 k g10 k l_2 a i1 0)
 else
  (S62 k l_2).bind fun q4 =>
  (bif !q4.1.2.1 then
   some ((false, ()), ())
  else
   L60_26 k k l_2 a q4.1.1 0))
noncomputable def b60_10 (k : Nat) (g : ((Unit) × (List Y3_0) × (List Y3_2) × Int × Unit) → Option Y3_4) (d : (Unit) × (List Y3_0) × (List Y3_2) × Int × Unit) : Option Y3_4 := l60_10 k (fun l_2 a i1 => g ((), l_2, a, i1, ())) d.2.1 d.2.2.1 d.2.2.2.1
noncomputable def L60_10 (k : Nat) (j : Nat) (l_2 : List Y3_0) (a : List Y3_2) (i1 : Int) : Option Y3_4 := iter (R := (Bool × Unit) × Unit) c60_L10 (b60_10 k) j ((), l_2, a, i1, ())
theorem L60_10_s (k : Nat) (j : Nat) (l_2 : List Y3_0) (a : List Y3_2) (i1 : Int) : L60_10 k (j + 1) l_2 a i1 = l60_10 k (L60_10 k j) l_2 a i1 := iter_succ _ _ _ _
noncomputable abbrev c60_L4 : Cut := ⟨[0, 3], [.cell Y3_13, .cell (.int .i64)], [], 235⟩
noncomputable def l60_4 (k : Nat) (g4 : (List Y3_0) → Int → Option Y3_4) (l_1 : List Y3_0) (i : Int) : Option Y3_4 :=
 (bif decide (i < (l_1.length : Int)) then
  ix l_1 i <|
  (S82 k (rd l_1 i (0, 0, 0, 0))).bind fun q0 =>
  (bif !q0.1.1 then
   some ((false, ()), ())
  else
   ix l_1 i <|
   (bif !(((rd l_1 i (0, 0, 0, 0)).1 == 0) == (i == (IntKind.i64.wrap ((l_1.length : Int) - 1)))) then
    some ((false, ()), ())
   else
    g4 l_1 (IntKind.i64.wrap (i + 1))))
 else
  (S83 k l_1).bind fun q1 =>
  L60_10 k k l_1 q1.1.1 0)
noncomputable def b60_4 (k : Nat) (g : ((Unit) × (List Y3_0) × Int × Unit) → Option Y3_4) (d : (Unit) × (List Y3_0) × Int × Unit) : Option Y3_4 := l60_4 k (fun l_1 i => g ((), l_1, i, ())) d.2.1 d.2.2.1
noncomputable def L60_4 (k : Nat) (j : Nat) (l_1 : List Y3_0) (i : Int) : Option Y3_4 := iter (R := (Bool × Unit) × Unit) c60_L4 (b60_4 k) j ((), l_1, i, ())
theorem L60_4_s (k : Nat) (j : Nat) (l_1 : List Y3_0) (i : Int) : L60_4 k (j + 1) l_1 i = l60_4 k (L60_4 k j) l_1 i := iter_succ _ _ _ _
noncomputable def S60 (k : Nat) (l_ : List Y3_0) : Option Y3_4 :=
 (bif decide ((l_.length : Int) < 1) then
  some ((false, ()), ())
 else
  (bif decide ((l_.length : Int) > 24) then
   some ((false, ()), ())
  else
   L60_4 k k l_ 0))
noncomputable def E60 : Env := tab.env (lk [(62, F62), (82, F82), (83, F83), (84, F84), (85, F85)]) (hintL [])
theorem E60_ok : EnvOK Try.prog E60 := envOK_of tabOK _ _ (allFn_lk (l := [(62, F62), (82, F82), (83, F83), (84, F84), (85, F85)]) ⟨ok62, ok82, ok83, ok84, ok85, trivial⟩)
noncomputable def B60 (k : Nat) : Tbl (RD R60 × MD P60) := (.loop 26 c60_L26 (b60_26 k) (fun g => (fun (g26 : Y3_9) => (.loop 30 c60_L30 (b60_30 k g26) (fun g => .nil) .nil)) (fun l_6 a4 pairs i5 => g ((), l_6, a4, pairs, i5, ()))) (.loop 10 c60_L10 (b60_10 k) (fun g => (fun (g10 : Y3_8) => (.loop 15 c60_L15 (b60_15 k g10) (fun g => (fun (g15 : Y3_12) => (.join 20 c60_J20 (fun d => j60_20 k g10 g15 d.2.1 d.2.2.1 d.2.2.2.1 d.2.2.2.2.1 d.2.2.2.2.2.1 d.2.2.2.2.2.2.1) (.join 19 c60_J19 (fun d => j60_19 k g10 g15 d.2.1 d.2.2.1 d.2.2.2.1 d.2.2.2.2.1 d.2.2.2.2.2.1) .nil))) (fun l_3 a1 i2 k_ => g ((), l_3, a1, i2, k_, ()))) .nil)) (fun l_2 a i1 => g ((), l_2, a, i1, ()))) (.loop 4 c60_L4 (b60_4 k) (fun g => .nil) .nil)))
noncomputable def F60 : Fn := ⟨P60, R60, fun k x => S60 k x.1⟩
theorem ok60 : FnOK Try.prog 60 F60 := evalF_ok (E := E60) (T := B60) E60_ok mix Try.func60 rfl (by kernel_rfl) (by kernel_rfl) (fun k => by kernel_rfl) (fun k x => by kernel_rfl)
end Go.Proofs.Ytinopkpnlibopaa.Ab
