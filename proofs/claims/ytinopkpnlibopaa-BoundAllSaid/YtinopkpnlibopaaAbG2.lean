import Derived.Test.YtinopkpnlibopaaAbG1
/- Contracts, printed by this session's own program gen.py. -/
set_option linter.unusedVariables false
set_option linter.unusedSimpArgs false
set_option maxRecDepth 100000
namespace Go.Proofs.Ytinopkpnlibopaa.Ab
open Go.RowKit
abbrev Y2_0 : Type := Int × Int × Int × (List (Int × Int × Int × Int)) × (List (Int × Int × Int × Int)) × List (Int × Int × Int × Int)
abbrev Y2_1 : Ty := .pair (.int .i64) (.pair (.int .i64) (.pair (.int .i64) (.pair (.sl 60 (.pair (.int .i64) (.pair (.int .i64) (.pair (.int .i64) (.int .i64))))) (.pair (.sl 60 (.pair (.int .i64) (.pair (.int .i64) (.pair (.int .i64) (.int .i64))))) (.sl 60 (.pair (.int .i64) (.pair (.int .i64) (.pair (.int .i64) (.int .i64)))))))))
abbrev Y2_2 : Type := List (Int × Int × Int × Int)
abbrev Y2_3 : Type := List (Int × Int)
abbrev Y2_4 : Ty := .pair (.int .i64) (.pair (.int .i64) (.pair (.int .i64) (.int .i64)))
abbrev Y2_5 : Type := (Int × Int × Int × Unit) × Unit
abbrev Y2_6 : Type := (List Y2_0) → Int → Int → Y2_3 → (List Y2_0) → Int → Int → Option ((Int × Unit) × Unit)
abbrev Y2_7 : Type := (Int × Unit) × Unit
abbrev Y2_8 : Type := (List Y2_0) → Int → Int → Int → Int → Int → Int → Bool → Option Y2_5
abbrev Y2_9 : Type := Int × Int × Int × Int
abbrev Y2_10 : Type := (List Y2_0) → Int → Int → Y2_3 → (List Y2_0) → Int → Int → Y2_3 → Int → Int → Option Y2_7
abbrev Y2_11 : Ty := .pair (.int .i64) (.int .i64)
abbrev Y2_12 : Type := (Y2_2 × Unit) × Unit
abbrev Y2_13 : Type := (Y2_3 × Unit) × Unit
abbrev Y2_14 : Type := List (Int × Int)
abbrev Y2_15 : Ty := .sl 36 Y2_1
abbrev Y2_16 : Type := Int × Bool × Unit
noncomputable abbrev P55 : List PT := [.val ⟨false, (.sl 44 (.sl 73 Y2_11)), false⟩]
noncomputable abbrev R55 : List RT := [.val ⟨false, (.sl 73 Y2_11), true⟩]
noncomputable abbrev c55_L11 : Cut := ⟨[6, 25, 26, 27], [.own 73 Y2_11, .cell (.sl 44 (.sl 73 Y2_11)), .cell (.int .i64), .cell (.int .i64)], [], 36⟩
noncomputable def l55_11 (k : Nat) (g11 : Y2_3 → (List Y2_3) → Int → Int → Option Y2_13) (newslice : Y2_14) (t25 : List Y2_3) (t26 : Int) (t27 : Int) : Option Y2_13 :=
 (bif decide (t27 < t26) then
  ix t25 t27 <|
  ap newslice (rd t25 t27 []) 16 fun r1 =>
  g11 r1 t25 t26 (IntKind.i64.wrap (t27 + 1))
 else
  some ((newslice, ()), ()))
noncomputable def b55_11 (k : Nat) (g : ((Unit) × Y2_3 × (List Y2_3) × Int × Int × Unit) → Option Y2_13) (d : (Unit) × Y2_3 × (List Y2_3) × Int × Int × Unit) : Option Y2_13 := l55_11 k (fun newslice t25 t26 t27 => g ((), newslice, t25, t26, t27, ())) d.2.1 d.2.2.1 d.2.2.2.1 d.2.2.2.2.1
noncomputable def L55_11 (k : Nat) (j : Nat) (newslice : Y2_14) (t25 : List Y2_3) (t26 : Int) (t27 : Int) : Option Y2_13 := iter (R := (Y2_3 × Unit) × Unit) c55_L11 (b55_11 k) j ((), newslice, t25, t26, t27, ())
theorem L55_11_s (k : Nat) (j : Nat) (newslice : Y2_14) (t25 : List Y2_3) (t26 : Int) (t27 : Int) : L55_11 k (j + 1) newslice t25 t26 t27 = l55_11 k (L55_11 k j) newslice t25 t26 t27 := iter_succ _ _ _ _
noncomputable abbrev c55_L3 : Cut := ⟨[0, 3, 9, 10, 11], [.cell (.sl 44 (.sl 73 Y2_11)), .cell (.int .i64), .cell (.sl 44 (.sl 73 Y2_11)), .cell (.int .i64), .cell (.int .i64)], [], 36⟩
noncomputable def l55_3 (k : Nat) (g3 : (List Y2_3) → Int → (List Y2_3) → Int → Int → Option Y2_13) (slices1 : List Y2_3) (size : Int) (t9 : List Y2_3) (t10 : Int) (t11 : Int) : Option Y2_13 :=
 (bif decide (t11 < t10) then
  ix t9 t11 <|
  (bif decide ((IntKind.i64.wrap (size + ((rd t9 t11 []).length : Int))) < 0) then
   none
  else
   g3 slices1 (IntKind.i64.wrap (size + ((rd t9 t11 []).length : Int))) t9 t10 (IntKind.i64.wrap (t11 + 1)))
 else
  (S74 k size).bind fun q0 =>
  L55_11 k k q0.1.1 slices1 (slices1.length : Int) 0)
noncomputable def b55_3 (k : Nat) (g : ((Unit) × (List Y2_3) × Int × (List Y2_3) × Int × Int × Unit) → Option Y2_13) (d : (Unit) × (List Y2_3) × Int × (List Y2_3) × Int × Int × Unit) : Option Y2_13 := l55_3 k (fun slices1 size t9 t10 t11 => g ((), slices1, size, t9, t10, t11, ())) d.2.1 d.2.2.1 d.2.2.2.1 d.2.2.2.2.1 d.2.2.2.2.2.1
noncomputable def L55_3 (k : Nat) (j : Nat) (slices1 : List Y2_3) (size : Int) (t9 : List Y2_3) (t10 : Int) (t11 : Int) : Option Y2_13 := iter (R := (Y2_3 × Unit) × Unit) c55_L3 (b55_3 k) j ((), slices1, size, t9, t10, t11, ())
theorem L55_3_s (k : Nat) (j : Nat) (slices1 : List Y2_3) (size : Int) (t9 : List Y2_3) (t10 : Int) (t11 : Int) : L55_3 k (j + 1) slices1 size t9 t10 t11 = l55_3 k (L55_3 k j) slices1 size t9 t10 t11 := iter_succ _ _ _ _
noncomputable def S55 (k : Nat) (slices : List Y2_3) : Option Y2_13 :=
 L55_3 k k slices 0 slices (slices.length : Int) 0
noncomputable def E55 : Env := tab.env (lk [(74, F74)]) (hintL [])
theorem E55_ok : EnvOK Try.prog E55 := envOK_of tabOK _ _ (allFn_lk (l := [(74, F74)]) ⟨ok74, trivial⟩)
noncomputable def B55 (k : Nat) : Tbl (RD R55 × MD P55) := (.loop 11 c55_L11 (b55_11 k) (fun g => .nil) (.loop 3 c55_L3 (b55_3 k) (fun g => .nil) .nil))
noncomputable def F55 : Fn := ⟨P55, R55, fun k x => S55 k x.1⟩
theorem ok55 : FnOK Try.prog 55 F55 := evalF_ok (E := E55) (T := B55) E55_ok mix Try.func55 rfl (by kernel_rfl) (by kernel_rfl) (fun k => by kernel_rfl) (fun k x => by kernel_rfl)
noncomputable abbrev P36 : List PT := [.val ⟨true, Y2_1, false⟩]
noncomputable abbrev R36 : List RT := [.val ⟨false, (.int .i64), true⟩, .val ⟨false, (.int .i64), true⟩, .val ⟨false, (.sl 73 Y2_11), true⟩]
noncomputable def S36 (k : Nat) (t : Int × Int × Int × Y2_2 × Y2_2 × List Y2_9) : Option ((Int × Int × Y2_3 × Unit) × Unit) :=
 (S47 k t).bind fun q0 =>
 (bif q0.1.1 != 0 then
  some ((0, 0, [], ()), ())
 else
  (S54 k t.2.2.2.1).bind fun q1 =>
  (S54 k t.2.2.2.2.1).bind fun q2 =>
  (bif q2.1.2.1 then
   (S55 k ([q1.1.1.2.2, q2.1.1.2.2] : List Y2_3)).bind fun q3 =>
   some ((q1.1.1.1, q2.1.1.1, q3.1.1, ()), ())
  else
   (S55 k ([q1.1.1.2.2, q2.1.1.2.2] : List Y2_3)).bind fun q4 =>
   some ((q1.1.1.1, q1.1.1.2.1, q4.1.1, ()), ())))
noncomputable def E36 : Env := tab.env (lk [(47, F47), (54, F54), (55, F55)]) (hintL [])
theorem E36_ok : EnvOK Try.prog E36 := envOK_of tabOK _ _ (allFn_lk (l := [(47, F47), (54, F54), (55, F55)]) ⟨ok47, ok54, ok55, trivial⟩)
noncomputable def B36 (k : Nat) : Tbl (RD R36 × MD P36) := .nil
noncomputable def F36 : Fn := ⟨P36, R36, fun k x => S36 k x.1⟩
theorem ok36 : FnOK Try.prog 36 F36 := evalF_ok (E := E36) (T := B36) E36_ok mix Try.func36 rfl (by kernel_rfl) (by kernel_rfl) (fun k => by kernel_rfl) (fun k x => by kernel_rfl)
noncomputable abbrev P98 : List PT := [.pv (.nil), .val ⟨false, (.int .i64), false⟩]
noncomputable abbrev R98 : List RT := [.val ⟨false, (.sl 60 Y2_4), true⟩]
noncomputable def S98 (k : Nat) (n : Int) : Option Y2_12 :=
 (bif decide (n < 0) then
  none
 else
  (bif decide ((IntKind.i64.wrap (n - 0)) > 0) then
   az ([] : List Y2_9) (IntKind.i64.wrap (n - 0)) 32 (0, 0, 0, 0) fun r0 =>
   sx r0 0 0 <|
   some ((r0.take 0, ()), ())
  else
   some (([], ()), ())))
noncomputable def E98 : Env := tab.env (lk []) (hintL [(25, 1)])
theorem E98_ok : EnvOK Try.prog E98 := envOK_of tabOK _ _ (fun f F h => by cases h)
noncomputable def B98 (k : Nat) : Tbl (RD R98 × MD P98) := .nil
noncomputable def F98 : Fn := ⟨P98, R98, fun k x => S98 k x.2.1⟩
theorem ok98 : FnOK Try.prog 98 F98 := evalF_ok (E := E98) (T := B98) E98_ok mix Try.func98 rfl (by kernel_rfl) (by kernel_rfl) (fun k => by kernel_rfl) (fun k x => by kernel_rfl)
noncomputable abbrev P80 : List PT := [.val ⟨false, (.sl 34 (.sl 60 Y2_4)), false⟩]
noncomputable abbrev R80 : List RT := [.val ⟨false, (.sl 60 Y2_4), true⟩]
noncomputable abbrev c80_L11 : Cut := ⟨[6, 25, 26, 27], [.own 60 Y2_4, .cell (.sl 34 (.sl 60 Y2_4)), .cell (.int .i64), .cell (.int .i64)], [], 36⟩
noncomputable def l80_11 (k : Nat) (g11 : Y2_2 → (List Y2_2) → Int → Int → Option Y2_12) (newslice : List Y2_9) (t25 : List Y2_2) (t26 : Int) (t27 : Int) : Option Y2_12 :=
 (bif decide (t27 < t26) then
  ix t25 t27 <|
  ap newslice (rd t25 t27 []) 32 fun r1 =>
  g11 r1 t25 t26 (IntKind.i64.wrap (t27 + 1))
 else
  some ((newslice, ()), ()))
noncomputable def b80_11 (k : Nat) (g : ((Unit) × Y2_2 × (List Y2_2) × Int × Int × Unit) → Option Y2_12) (d : (Unit) × Y2_2 × (List Y2_2) × Int × Int × Unit) : Option Y2_12 := l80_11 k (fun newslice t25 t26 t27 => g ((), newslice, t25, t26, t27, ())) d.2.1 d.2.2.1 d.2.2.2.1 d.2.2.2.2.1
noncomputable def L80_11 (k : Nat) (j : Nat) (newslice : List Y2_9) (t25 : List Y2_2) (t26 : Int) (t27 : Int) : Option Y2_12 := iter (R := (Y2_2 × Unit) × Unit) c80_L11 (b80_11 k) j ((), newslice, t25, t26, t27, ())
theorem L80_11_s (k : Nat) (j : Nat) (newslice : List Y2_9) (t25 : List Y2_2) (t26 : Int) (t27 : Int) : L80_11 k (j + 1) newslice t25 t26 t27 = l80_11 k (L80_11 k j) newslice t25 t26 t27 := iter_succ _ _ _ _
noncomputable abbrev c80_L3 : Cut := ⟨[0, 3, 9, 10, 11], [.cell (.sl 34 (.sl 60 Y2_4)), .cell (.int .i64), .cell (.sl 34 (.sl 60 Y2_4)), .cell (.int .i64), .cell (.int .i64)], [], 36⟩
noncomputable def l80_3 (k : Nat) (g3 : (List Y2_2) → Int → (List Y2_2) → Int → Int → Option Y2_12) (slices1 : List Y2_2) (size : Int) (t9 : List Y2_2) (t10 : Int) (t11 : Int) : Option Y2_12 :=
 (bif decide (t11 < t10) then
  ix t9 t11 <|
  (bif decide ((IntKind.i64.wrap (size + ((rd t9 t11 []).length : Int))) < 0) then
   none
  else
   g3 slices1 (IntKind.i64.wrap (size + ((rd t9 t11 []).length : Int))) t9 t10 (IntKind.i64.wrap (t11 + 1)))
 else
  (S98 k size).bind fun q0 =>
  L80_11 k k q0.1.1 slices1 (slices1.length : Int) 0)
noncomputable def b80_3 (k : Nat) (g : ((Unit) × (List Y2_2) × Int × (List Y2_2) × Int × Int × Unit) → Option Y2_12) (d : (Unit) × (List Y2_2) × Int × (List Y2_2) × Int × Int × Unit) : Option Y2_12 := l80_3 k (fun slices1 size t9 t10 t11 => g ((), slices1, size, t9, t10, t11, ())) d.2.1 d.2.2.1 d.2.2.2.1 d.2.2.2.2.1 d.2.2.2.2.2.1
noncomputable def L80_3 (k : Nat) (j : Nat) (slices1 : List Y2_2) (size : Int) (t9 : List Y2_2) (t10 : Int) (t11 : Int) : Option Y2_12 := iter (R := (Y2_2 × Unit) × Unit) c80_L3 (b80_3 k) j ((), slices1, size, t9, t10, t11, ())
theorem L80_3_s (k : Nat) (j : Nat) (slices1 : List Y2_2) (size : Int) (t9 : List Y2_2) (t10 : Int) (t11 : Int) : L80_3 k (j + 1) slices1 size t9 t10 t11 = l80_3 k (L80_3 k j) slices1 size t9 t10 t11 := iter_succ _ _ _ _
noncomputable def S80 (k : Nat) (slices : List Y2_2) : Option Y2_12 :=
 L80_3 k k slices 0 slices (slices.length : Int) 0
noncomputable def E80 : Env := tab.env (lk [(98, F98)]) (hintL [])
theorem E80_ok : EnvOK Try.prog E80 := envOK_of tabOK _ _ (allFn_lk (l := [(98, F98)]) ⟨ok98, trivial⟩)
noncomputable def B80 (k : Nat) : Tbl (RD R80 × MD P80) := (.loop 11 c80_L11 (b80_11 k) (fun g => .nil) (.loop 3 c80_L3 (b80_3 k) (fun g => .nil) .nil))
noncomputable def F80 : Fn := ⟨P80, R80, fun k x => S80 k x.1⟩
theorem ok80 : FnOK Try.prog 80 F80 := evalF_ok (E := E80) (T := B80) E80_ok mix Try.func80 rfl (by kernel_rfl) (by kernel_rfl) (fun k => by kernel_rfl) (fun k x => by kernel_rfl)
noncomputable abbrev P81 : List PT := [.val ⟨true, Y2_4, false⟩, .pv (.ref (.int .i64))]
noncomputable abbrev R81 : List RT := [.val ⟨false, .bool, true⟩]
noncomputable def S81 (k : Nat) (i : Int × Int × Int × Int) (x1 : Int) : Option ((Bool × Unit) × Unit) :=
 (bif i.1 == 9 then
  some ((i.2.1 == x1, ()), ())
 else
  some ((false, ()), ()))
noncomputable def E81 : Env := tab.env (lk []) (hintL [])
theorem E81_ok : EnvOK Try.prog E81 := envOK_of tabOK _ _ (fun f F h => by cases h)
noncomputable def B81 (k : Nat) : Tbl (RD R81 × MD P81) := .nil
noncomputable def F81 : Fn := ⟨P81, R81, fun k x => S81 k x.1 x.2.1⟩
theorem ok81 : FnOK Try.prog 81 F81 := evalF_ok (E := E81) (T := B81) E81_ok mix Try.func81 rfl (by kernel_rfl) (by kernel_rfl) (fun k => by kernel_rfl) (fun k x => by kernel_rfl)
noncomputable abbrev P89c : List PT := [.val ⟨false, (.sl 60 Y2_4), false⟩, .pv (.clo 81 [.ref (.int .i64)])]
noncomputable abbrev R89c : List RT := [.val ⟨false, (.int .i64), true⟩]
noncomputable abbrev c89c_L2 : Cut := ⟨[0, 1, 7, 8], [.cell (.sl 60 Y2_4), .clo 81 [.ref (.int .i64)], .cell (.int .i64), .cell (.int .i64)], [], 19⟩
noncomputable def l89c_2 (k : Nat) (g2 : Y2_2 → Int → Int → Int → Option Y2_7) (s1 : List Y2_9) (f1 : Int) (t7 : Int) (t8 : Int) : Option Y2_7 :=
 (bif decide (t8 < t7) then
  ix s1 t8 <|
  (S81 k (rd s1 t8 (0, 0, 0, 0)) f1).bind fun q0 =>
  (bif q0.1.1 then
   some ((t8, ()), ())
  else
   g2 s1 f1 t7 (IntKind.i64.wrap (t8 + 1)))
 else
  some (((-1), ()), ()))
noncomputable def b89c_2 (k : Nat) (g : ((Unit) × Y2_2 × (Int × Unit) × Int × Int × Unit) → Option Y2_7) (d : (Unit) × Y2_2 × (Int × Unit) × Int × Int × Unit) : Option Y2_7 := l89c_2 k (fun s1 f1 t7 t8 => g ((), s1, (f1, ()), t7, t8, ())) d.2.1 d.2.2.1.1 d.2.2.2.1 d.2.2.2.2.1
noncomputable def L89c_2 (k : Nat) (j : Nat) (s1 : List Y2_9) (f1 : Int) (t7 : Int) (t8 : Int) : Option Y2_7 := iter (R := (Int × Unit) × Unit) c89c_L2 (b89c_2 k) j ((), s1, (f1, ()), t7, t8, ())
theorem L89c_2_s (k : Nat) (j : Nat) (s1 : List Y2_9) (f1 : Int) (t7 : Int) (t8 : Int) : L89c_2 k (j + 1) s1 f1 t7 t8 = l89c_2 k (L89c_2 k j) s1 f1 t7 t8 := iter_succ _ _ _ _
noncomputable def S89c (k : Nat) (s : List Y2_9) (f : Int) : Option Y2_7 :=
 L89c_2 k k s f (s.length : Int) 0
noncomputable def E89c : Env := tab.env (lk [(81, F81)]) (hintL [])
theorem E89c_ok : EnvOK Try.prog E89c := envOK_of tabOK _ _ (allFn_lk (l := [(81, F81)]) ⟨ok81, trivial⟩)
noncomputable def B89c (k : Nat) : Tbl (RD R89c × MD P89c) := (.loop 2 c89c_L2 (b89c_2 k) (fun g => .nil) .nil)
noncomputable def F89c : Fn := ⟨P89c, R89c, fun k x => S89c k x.1 x.2.1.1⟩
theorem ok89c : FnOK Try.prog 89 F89c := evalF_ok (E := E89c) (T := B89c) E89c_ok mix Try.func89 rfl (by kernel_rfl) (by kernel_rfl) (fun k => by kernel_rfl) (fun k x => by kernel_rfl)
noncomputable abbrev P79b : List PT := [.val ⟨false, (.sl 60 Y2_4), false⟩, .pv (.clo 81 [.ref (.int .i64)])]
noncomputable abbrev R79b : List RT := [.val ⟨false, .bool, true⟩]
noncomputable def S79b (k : Nat) (s : List Y2_9) (f : Int) : Option ((Bool × Unit) × Unit) :=
 (S89c k s f).bind fun q0 =>
 some ((decide (q0.1.1 ≥ 0), ()), ())
noncomputable def E79b : Env := tab.env (lk [(89, F89c)]) (hintL [])
theorem E79b_ok : EnvOK Try.prog E79b := envOK_of tabOK _ _ (allFn_lk (l := [(89, F89c)]) ⟨ok89c, trivial⟩)
noncomputable def B79b (k : Nat) : Tbl (RD R79b × MD P79b) := .nil
noncomputable def F79b : Fn := ⟨P79b, R79b, fun k x => S79b k x.1 x.2.1.1⟩
theorem ok79b : FnOK Try.prog 79 F79b := evalF_ok (E := E79b) (T := B79b) E79b_ok mix Try.func79 rfl (by kernel_rfl) (by kernel_rfl) (fun k => by kernel_rfl) (fun k x => by kernel_rfl)
noncomputable abbrev P78 : List PT := [.val ⟨true, Y2_1, false⟩, .pv (.ref (.int .i64))]
noncomputable abbrev R78 : List RT := [.val ⟨false, .bool, true⟩]
noncomputable def S78 (k : Nat) (t : Int × Int × Int × Y2_2 × Y2_2 × List Y2_9) (x1 : Int) : Option ((Bool × Unit) × Unit) :=
 (S80 k ([t.2.2.2.1, t.2.2.2.2.1] : List Y2_2)).bind fun q0 =>
 (S79b k q0.1.1 x1).bind fun q1 =>
 some ((q1.1.1, ()), ())
noncomputable def E78 : Env := tab.env (lk [(79, F79b), (80, F80)]) (hintL [])
theorem E78_ok : EnvOK Try.prog E78 := envOK_of tabOK _ _ (allFn_lk (l := [(79, F79b), (80, F80)]) ⟨ok79b, ok80, trivial⟩)
noncomputable def B78 (k : Nat) : Tbl (RD R78 × MD P78) := .nil
noncomputable def F78 : Fn := ⟨P78, R78, fun k x => S78 k x.1 x.2.1⟩
theorem ok78 : FnOK Try.prog 78 F78 := evalF_ok (E := E78) (T := B78) E78_ok mix Try.func78 rfl (by kernel_rfl) (by kernel_rfl) (fun k => by kernel_rfl) (fun k x => by kernel_rfl)
noncomputable abbrev P49 : List PT := [.val ⟨false, Y2_15, false⟩, .pv (.clo 78 [.ref (.int .i64)])]
noncomputable abbrev R49 : List RT := [.val ⟨false, (.int .i64), true⟩]
noncomputable abbrev c49_L2 : Cut := ⟨[0, 1, 7, 8], [.cell Y2_15, .clo 78 [.ref (.int .i64)], .cell (.int .i64), .cell (.int .i64)], [], 19⟩
noncomputable def l49_2 (k : Nat) (g2 : (List Y2_0) → Int → Int → Int → Option Y2_7) (s1 : List Y2_0) (f1 : Int) (t7 : Int) (t8 : Int) : Option Y2_7 :=
 (bif decide (t8 < t7) then
  ix s1 t8 <|
  (S78 k (rd s1 t8 (0, 0, 0, [], [], [])) f1).bind fun q0 =>
  (bif q0.1.1 then
   some ((t8, ()), ())
  else
   g2 s1 f1 t7 (IntKind.i64.wrap (t8 + 1)))
 else
  some (((-1), ()), ()))
noncomputable def b49_2 (k : Nat) (g : ((Unit) × (List Y2_0) × (Int × Unit) × Int × Int × Unit) → Option Y2_7) (d : (Unit) × (List Y2_0) × (Int × Unit) × Int × Int × Unit) : Option Y2_7 := l49_2 k (fun s1 f1 t7 t8 => g ((), s1, (f1, ()), t7, t8, ())) d.2.1 d.2.2.1.1 d.2.2.2.1 d.2.2.2.2.1
noncomputable def L49_2 (k : Nat) (j : Nat) (s1 : List Y2_0) (f1 : Int) (t7 : Int) (t8 : Int) : Option Y2_7 := iter (R := (Int × Unit) × Unit) c49_L2 (b49_2 k) j ((), s1, (f1, ()), t7, t8, ())
theorem L49_2_s (k : Nat) (j : Nat) (s1 : List Y2_0) (f1 : Int) (t7 : Int) (t8 : Int) : L49_2 k (j + 1) s1 f1 t7 t8 = l49_2 k (L49_2 k j) s1 f1 t7 t8 := iter_succ _ _ _ _
noncomputable def S49 (k : Nat) (s : List Y2_0) (f : Int) : Option Y2_7 :=
 L49_2 k k s f (s.length : Int) 0
noncomputable def E49 : Env := tab.env (lk [(78, F78)]) (hintL [])
theorem E49_ok : EnvOK Try.prog E49 := envOK_of tabOK _ _ (allFn_lk (l := [(78, F78)]) ⟨ok78, trivial⟩)
noncomputable def B49 (k : Nat) : Tbl (RD R49 × MD P49) := (.loop 2 c49_L2 (b49_2 k) (fun g => .nil) .nil)
noncomputable def F49 : Fn := ⟨P49, R49, fun k x => S49 k x.1 x.2.1.1⟩
theorem ok49 : FnOK Try.prog 49 F49 := evalF_ok (E := E49) (T := B49) E49_ok mix Try.func49 rfl (by kernel_rfl) (by kernel_rfl) (fun k => by kernel_rfl) (fun k x => by kernel_rfl)
noncomputable abbrev P58 : List PT := [.val ⟨false, Y2_15, false⟩, .val ⟨false, (.int .i64), false⟩]
noncomputable abbrev R58 : List RT := [.val ⟨false, (.int .i64), true⟩]
noncomputable def S58 (k : Nat) (l_ : List Y2_0) (s : Int) : Option Y2_7 :=
 (S49 k l_ s).bind fun q0 =>
 (bif decide (q0.1.1 < 0) then
  some ((8, ()), ())
 else
  some ((q0.1.1, ()), ()))
noncomputable def E58 : Env := tab.env (lk [(49, F49)]) (hintL [])
theorem E58_ok : EnvOK Try.prog E58 := envOK_of tabOK _ _ (allFn_lk (l := [(49, F49)]) ⟨ok49, trivial⟩)
noncomputable def B58 (k : Nat) : Tbl (RD R58 × MD P58) := .nil
noncomputable def F58 : Fn := ⟨P58, R58, fun k x => S58 k x.1 x.2.1⟩
theorem ok58 : FnOK Try.prog 58 F58 := evalF_ok (E := E58) (T := B58) E58_ok mix Try.func58 rfl (by kernel_rfl) (by kernel_rfl) (fun k => by kernel_rfl) (fun k x => by kernel_rfl)
noncomputable abbrev P38 : List PT := [.val ⟨false, Y2_15, false⟩, .val ⟨false, (.int .i64), false⟩]
noncomputable abbrev R38 : List RT := [.val ⟨false, (.int .i64), true⟩]
noncomputable abbrev c38_J13 : Cut := ⟨[0, 1, 4, 5, 12, 16, 17, 18, 32, 33, 34], [.cell Y2_15, .cell (.int .i64), .cell (.int .i64), .mp 90 true (.int .i64) false (.int .i64), .box 73 [.cell (.int .i64), .cell (.int .i64)], .cell Y2_15, .cell (.int .i64), .cell (.int .i64), .own 73 Y2_11, .cell (.int .i64), .cell (.int .i64)], [], 70⟩
noncomputable def j38_13 (k : Nat) (g3 : Y2_6) (g8 : Y2_10) (l_3 : List Y2_0) (i3 : Int) (most2 : Int) (ceils2 : Y2_14) (x : Int) (x1 : Int) (t16_2 : List Y2_0) (t17_2 : Int) (t18_2 : Int) (t32_1 : Y2_14) (t33_1 : Int) (t34_1 : Int) : Option Y2_7 :=
 (bif decide ((mget (.int .i64) (.int .i64) x ceils2 0) ≤ i3) then
  g8 l_3 i3 (mx most2 x1) ceils2 t16_2 t17_2 t18_2 t32_1 t33_1 (IntKind.i64.wrap (t34_1 + 1))
 else
  g8 l_3 i3 most2 ceils2 t16_2 t17_2 t18_2 t32_1 t33_1 (IntKind.i64.wrap (t34_1 + 1)))
noncomputable abbrev c38_L8 : Cut := ⟨[0, 1, 4, 5, 16, 17, 18, 32, 33, 34], [.cell Y2_15, .cell (.int .i64), .cell (.int .i64), .mp 90 true (.int .i64) false (.int .i64), .cell Y2_15, .cell (.int .i64), .cell (.int .i64), .own 73 Y2_11, .cell (.int .i64), .cell (.int .i64)], [], 70⟩
noncomputable def l38_8 (k : Nat) (g3 : Y2_6) (g8 : Y2_10) (l_2 : List Y2_0) (i2 : Int) (most1 : Int) (ceils1 : Y2_14) (t16_1 : List Y2_0) (t17_1 : Int) (t18_1 : Int) (t32 : Y2_14) (t33 : Int) (t34 : Int) : Option Y2_7 :=
 (bif decide (t34 < t33) then
  ix t32 t34 <|
  (bif !(mhas (.int .i64) (.int .i64) (rd t32 t34 (0, 0)).1 ceils1) then
   (S58 k l_2 (rd t32 t34 (0, 0)).1).bind fun q1 =>
   j38_13 k g3 g8 l_2 i2 most1 (updD (.int .i64) (.int .i64) (rd t32 t34 (0, 0)).1 q1.1.1 ceils1) (rd t32 t34 (0, 0)).1 (rd t32 t34 (0, 0)).2 t16_1 t17_1 t18_1 t32 t33 t34
  else
   j38_13 k g3 g8 l_2 i2 most1 ceils1 (rd t32 t34 (0, 0)).1 (rd t32 t34 (0, 0)).2 t16_1 t17_1 t18_1 t32 t33 t34)
 else
  g3 l_2 i2 most1 ceils1 t16_1 t17_1 (IntKind.i64.wrap (t18_1 + 1)))
noncomputable def b38_8 (k : Nat) (g3 : Y2_6) (g : ((Unit) × (List Y2_0) × Int × Int × Y2_3 × (List Y2_0) × Int × Int × Y2_3 × Int × Int × Unit) → Option Y2_7) (d : (Unit) × (List Y2_0) × Int × Int × Y2_3 × (List Y2_0) × Int × Int × Y2_3 × Int × Int × Unit) : Option Y2_7 := l38_8 k g3 (fun l_2 i2 most1 ceils1 t16_1 t17_1 t18_1 t32 t33 t34 => g ((), l_2, i2, most1, ceils1, t16_1, t17_1, t18_1, t32, t33, t34, ())) d.2.1 d.2.2.1 d.2.2.2.1 d.2.2.2.2.1 d.2.2.2.2.2.1 d.2.2.2.2.2.2.1 d.2.2.2.2.2.2.2.1 d.2.2.2.2.2.2.2.2.1 d.2.2.2.2.2.2.2.2.2.1 d.2.2.2.2.2.2.2.2.2.2.1
noncomputable def L38_8 (k : Nat) (g3 : Y2_6) (j : Nat) (l_2 : List Y2_0) (i2 : Int) (most1 : Int) (ceils1 : Y2_14) (t16_1 : List Y2_0) (t17_1 : Int) (t18_1 : Int) (t32 : Y2_14) (t33 : Int) (t34 : Int) : Option Y2_7 := iter (R := (Int × Unit) × Unit) c38_L8 (b38_8 k g3) j ((), l_2, i2, most1, ceils1, t16_1, t17_1, t18_1, t32, t33, t34, ())
theorem L38_8_s (k : Nat) (g3 : Y2_6) (j : Nat) (l_2 : List Y2_0) (i2 : Int) (most1 : Int) (ceils1 : Y2_14) (t16_1 : List Y2_0) (t17_1 : Int) (t18_1 : Int) (t32 : Y2_14) (t33 : Int) (t34 : Int) : L38_8 k g3 (j + 1) l_2 i2 most1 ceils1 t16_1 t17_1 t18_1 t32 t33 t34 = l38_8 k g3 (L38_8 k g3 j) l_2 i2 most1 ceils1 t16_1 t17_1 t18_1 t32 t33 t34 := iter_succ _ _ _ _
noncomputable abbrev c38_L3 : Cut := ⟨[0, 1, 4, 5, 16, 17, 18], [.cell Y2_15, .cell (.int .i64), .cell (.int .i64), .mp 90 true (.int .i64) false (.int .i64), .cell Y2_15, .cell (.int .i64), .cell (.int .i64)], [], 70⟩
noncomputable def l38_3 (k : Nat) (g3 : Y2_6) (l_1 : List Y2_0) (i1 : Int) (most : Int) (ceils : Y2_14) (t16 : List Y2_0) (t17 : Int) (t18 : Int) : Option Y2_7 :=
 (bif decide (t18 < t17) then
  ix t16 t18 <|
  (bif t18 == i1 then
   g3 l_1 i1 most ceils t16 t17 (IntKind.i64.wrap (t18 + 1))
  else
   (S36 k (rd t16 t18 (0, 0, 0, [], [], []))).bind fun q0 =>
   L38_8 k g3 k l_1 i1 most ceils t16 t17 t18 q0.1.2.2.1 (q0.1.2.2.1.length : Int) 0)
 else
  some ((most, ()), ()))
noncomputable def b38_3 (k : Nat) (g : ((Unit) × (List Y2_0) × Int × Int × Y2_3 × (List Y2_0) × Int × Int × Unit) → Option Y2_7) (d : (Unit) × (List Y2_0) × Int × Int × Y2_3 × (List Y2_0) × Int × Int × Unit) : Option Y2_7 := l38_3 k (fun l_1 i1 most ceils t16 t17 t18 => g ((), l_1, i1, most, ceils, t16, t17, t18, ())) d.2.1 d.2.2.1 d.2.2.2.1 d.2.2.2.2.1 d.2.2.2.2.2.1 d.2.2.2.2.2.2.1 d.2.2.2.2.2.2.2.1
noncomputable def L38_3 (k : Nat) (j : Nat) (l_1 : List Y2_0) (i1 : Int) (most : Int) (ceils : Y2_14) (t16 : List Y2_0) (t17 : Int) (t18 : Int) : Option Y2_7 := iter (R := (Int × Unit) × Unit) c38_L3 (b38_3 k) j ((), l_1, i1, most, ceils, t16, t17, t18, ())
theorem L38_3_s (k : Nat) (j : Nat) (l_1 : List Y2_0) (i1 : Int) (most : Int) (ceils : Y2_14) (t16 : List Y2_0) (t17 : Int) (t18 : Int) : L38_3 k (j + 1) l_1 i1 most ceils t16 t17 t18 = l38_3 k (L38_3 k j) l_1 i1 most ceils t16 t17 t18 := iter_succ _ _ _ _
noncomputable def S38 (k : Nat) (l_ : List Y2_0) (i : Int) : Option Y2_7 :=
 L38_3 k k l_ i 0 ([] : List (Int × Int)) l_ (l_.length : Int) 0
noncomputable def E38 : Env := tab.env (lk [(36, F36), (58, F58)]) (hintL [])
theorem E38_ok : EnvOK Try.prog E38 := envOK_of tabOK _ _ (allFn_lk (l := [(36, F36), (58, F58)]) ⟨ok36, ok58, trivial⟩)
noncomputable def B38 (k : Nat) : Tbl (RD R38 × MD P38) := (.loop 3 c38_L3 (b38_3 k) (fun g => (fun (g3 : Y2_6) => (.loop 8 c38_L8 (b38_8 k g3) (fun g => (fun (g8 : Y2_10) => (.join 13 c38_J13 (fun d => j38_13 k g3 g8 d.2.1 d.2.2.1 d.2.2.2.1 d.2.2.2.2.1 d.2.2.2.2.2.1.1 d.2.2.2.2.2.1.2.1 d.2.2.2.2.2.2.1 d.2.2.2.2.2.2.2.1 d.2.2.2.2.2.2.2.2.1 d.2.2.2.2.2.2.2.2.2.1 d.2.2.2.2.2.2.2.2.2.2.1 d.2.2.2.2.2.2.2.2.2.2.2.1) .nil)) (fun l_2 i2 most1 ceils1 t16_1 t17_1 t18_1 t32 t33 t34 => g ((), l_2, i2, most1, ceils1, t16_1, t17_1, t18_1, t32, t33, t34, ()))) .nil)) (fun l_1 i1 most ceils t16 t17 t18 => g ((), l_1, i1, most, ceils, t16, t17, t18, ()))) .nil)
noncomputable def F38 : Fn := ⟨P38, R38, fun k x => S38 k x.1 x.2.1⟩
theorem ok38 : FnOK Try.prog 38 F38 := evalF_ok (E := E38) (T := B38) E38_ok mix Try.func38 rfl (by kernel_rfl) (by kernel_rfl) (fun k => by kernel_rfl) (fun k x => by kernel_rfl)
noncomputable abbrev P37 : List PT := [.mbox 68 [.cell (.int .i64), .cell .bool], .val ⟨false, (.int .i64), false⟩, .val ⟨false, (.int .i64), false⟩]
noncomputable abbrev R37 : List RT := []
noncomputable def S37 (k : Nat) (s : Int) (s1 : Bool) (times : Int) (v : Int) : Option ((Unit) × Y2_16 × Unit) :=
 (S56 k times v).bind fun q0 =>
 (S57 k s q0.1.1).bind fun q1 =>
 (bif s1 then
  some ((), (q1.1.1, true, ()), ())
 else
  (bif !q0.1.2.1 then
   some ((), (q1.1.1, true, ()), ())
  else
   some ((), (q1.1.1, !q1.1.2.1, ()), ())))
noncomputable def E37 : Env := tab.env (lk [(56, F56), (57, F57)]) (hintL [])
theorem E37_ok : EnvOK Try.prog E37 := envOK_of tabOK _ _ (allFn_lk (l := [(56, F56), (57, F57)]) ⟨ok56, ok57, trivial⟩)
noncomputable def B37 (k : Nat) : Tbl (RD R37 × MD P37) := .nil
noncomputable def F37 : Fn := ⟨P37, R37, fun k x => S37 k x.1.1 x.1.2.1 x.2.1 x.2.2.1⟩
theorem ok37 : FnOK Try.prog 37 F37 := evalF_ok (E := E37) (T := B37) E37_ok mix Try.func37 rfl (by kernel_rfl) (by kernel_rfl) (fun k => by kernel_rfl) (fun k x => by kernel_rfl)
noncomputable abbrev P59 : List PT := [.val ⟨false, (.int .i64), false⟩, .val ⟨false, (.int .i64), false⟩]
noncomputable abbrev R59 : List RT := [.val ⟨false, (.int .i64), true⟩, .val ⟨false, .bool, true⟩]
noncomputable def S59 (k : Nat) (a : Int) (b : Int) : Option (Y2_16 × Unit) :=
 (bif decide (b < 1) then
  some ((0, false, ()), ())
 else
  (bif decide (a < 0) then
   some ((0, false, ()), ())
  else
   nz b <|
   nz b <|
   (bif decide ((Int.tmod a b) > 0) then
    some ((IntKind.i64.wrap ((IntKind.i64.wrap (Int.tdiv a b)) + 1), true, ()), ())
   else
    some ((IntKind.i64.wrap (Int.tdiv a b), true, ()), ()))))
noncomputable def E59 : Env := tab.env (lk []) (hintL [])
theorem E59_ok : EnvOK Try.prog E59 := envOK_of tabOK _ _ (fun f F h => by cases h)
noncomputable def B59 (k : Nat) : Tbl (RD R59 × MD P59) := .nil
noncomputable def F59 : Fn := ⟨P59, R59, fun k x => S59 k x.1 x.2.1⟩
theorem ok59 : FnOK Try.prog 59 F59 := evalF_ok (E := E59) (T := B59) E59_ok mix Try.func59 rfl (by kernel_rfl) (by kernel_rfl) (fun k => by kernel_rfl) (fun k x => by kernel_rfl)
noncomputable abbrev P39 : List PT := [.val ⟨false, (.int .i64), false⟩, .val ⟨false, (.int .i64), false⟩]
noncomputable abbrev R39 : List RT := [.val ⟨false, (.int .i64), true⟩]
noncomputable def S39 (k : Nat) (r_ : Int) (v : Int) : Option Y2_7 :=
 (S59 k r_ v).bind fun q0 =>
 some ((q0.1.1, ()), ())
noncomputable def E39 : Env := tab.env (lk [(59, F59)]) (hintL [])
theorem E39_ok : EnvOK Try.prog E39 := envOK_of tabOK _ _ (allFn_lk (l := [(59, F59)]) ⟨ok59, trivial⟩)
noncomputable def B39 (k : Nat) : Tbl (RD R39 × MD P39) := .nil
noncomputable def F39 : Fn := ⟨P39, R39, fun k x => S39 k x.1 x.2.1⟩
theorem ok39 : FnOK Try.prog 39 F39 := evalF_ok (E := E39) (T := B39) E39_ok mix Try.func39 rfl (by kernel_rfl) (by kernel_rfl) (fun k => by kernel_rfl) (fun k x => by kernel_rfl)
noncomputable abbrev P16 : List PT := [.val ⟨false, Y2_15, false⟩, .val ⟨false, (.int .i64), false⟩, .val ⟨false, (.int .i64), false⟩]
noncomputable abbrev R16 : List RT := [.val ⟨false, (.int .i64), true⟩, .val ⟨false, (.int .i64), true⟩, .val ⟨false, (.int .i64), true⟩]
noncomputable abbrev c16_L18 : Cut := ⟨[0, 1, 2, 6, 7, 12, 18, 19, 88, 89, 90], [.cell Y2_15, .cell (.int .i64), .cell (.int .i64), .cell (.int .i64), .cell (.int .i64), .cell (.int .i64), .box 68 [.cell (.int .i64), .cell .bool], .box 68 [.cell (.int .i64), .cell .bool], .cell Y2_15, .cell (.int .i64), .cell (.int .i64)], [], 128⟩
noncomputable def l16_18 (k : Nat) (g14 : Y2_8) (g18 : (List Y2_0) → Int → Int → Int → Int → Int → Int → Bool → Int → Bool → (List Y2_0) → Int → Int → Option Y2_5) (l_3 : List Y2_0) (i3 : Int) (apart3 : Int) (r_1 : Int) (rounds2 : Int) (lost2 : Int) (first2 : Int) (first3 : Bool) (next : Int) (next1 : Bool) (t88 : List Y2_0) (t89 : Int) (t90 : Int) : Option Y2_5 :=
 (bif decide (t90 < t89) then
  ix t88 t90 <|
  (S36 k (rd t88 t90 (0, 0, 0, [], [], []))).bind fun q7 =>
  (S39 k r_1 (rd t88 t90 (0, 0, 0, [], [], [])).2.1).bind fun q8 =>
  (S37 k next next1 q8.1.1 q7.1.1).bind fun q9 =>
  g18 l_3 i3 apart3 r_1 rounds2 lost2 first2 first3 q9.2.1.1 q9.2.1.2.1 t88 t89 (IntKind.i64.wrap (t90 + 1))
 else
  (bif next1 then
   some ((0, 0, 13, ()), ())
  else
   ix l_3 i3 <|
   (bif decide (next > (rd l_3 i3 (0, 0, 0, [], [], [])).2.2.1) then
    some ((0, 0, 14, ()), ())
   else
    (bif next == r_1 then
     some ((r_1, rounds2, 0, ()), ())
    else
     g14 l_3 i3 apart3 next rounds2 lost2 first2 first3))))
noncomputable def b16_18 (k : Nat) (g14 : Y2_8) (g : ((Unit) × (List Y2_0) × Int × Int × Int × Int × Int × Y2_16 × Y2_16 × (List Y2_0) × Int × Int × Unit) → Option Y2_5) (d : (Unit) × (List Y2_0) × Int × Int × Int × Int × Int × Y2_16 × Y2_16 × (List Y2_0) × Int × Int × Unit) : Option Y2_5 := l16_18 k g14 (fun l_3 i3 apart3 r_1 rounds2 lost2 first2 first3 next next1 t88 t89 t90 => g ((), l_3, i3, apart3, r_1, rounds2, lost2, (first2, first3, ()), (next, next1, ()), t88, t89, t90, ())) d.2.1 d.2.2.1 d.2.2.2.1 d.2.2.2.2.1 d.2.2.2.2.2.1 d.2.2.2.2.2.2.1 d.2.2.2.2.2.2.2.1.1 d.2.2.2.2.2.2.2.1.2.1 d.2.2.2.2.2.2.2.2.1.1 d.2.2.2.2.2.2.2.2.1.2.1 d.2.2.2.2.2.2.2.2.2.1 d.2.2.2.2.2.2.2.2.2.2.1 d.2.2.2.2.2.2.2.2.2.2.2.1
noncomputable def L16_18 (k : Nat) (g14 : Y2_8) (j : Nat) (l_3 : List Y2_0) (i3 : Int) (apart3 : Int) (r_1 : Int) (rounds2 : Int) (lost2 : Int) (first2 : Int) (first3 : Bool) (next : Int) (next1 : Bool) (t88 : List Y2_0) (t89 : Int) (t90 : Int) : Option Y2_5 := iter (R := (Int × Int × Int × Unit) × Unit) c16_L18 (b16_18 k g14) j ((), l_3, i3, apart3, r_1, rounds2, lost2, (first2, first3, ()), (next, next1, ()), t88, t89, t90, ())
theorem L16_18_s (k : Nat) (g14 : Y2_8) (j : Nat) (l_3 : List Y2_0) (i3 : Int) (apart3 : Int) (r_1 : Int) (rounds2 : Int) (lost2 : Int) (first2 : Int) (first3 : Bool) (next : Int) (next1 : Bool) (t88 : List Y2_0) (t89 : Int) (t90 : Int) : L16_18 k g14 (j + 1) l_3 i3 apart3 r_1 rounds2 lost2 first2 first3 next next1 t88 t89 t90 = l16_18 k g14 (L16_18 k g14 j) l_3 i3 apart3 r_1 rounds2 lost2 first2 first3 next next1 t88 t89 t90 := iter_succ _ _ _ _
noncomputable abbrev c16_L14 : Cut := ⟨[0, 1, 2, 6, 7, 12, 18], [.cell Y2_15, .cell (.int .i64), .cell (.int .i64), .cell (.int .i64), .cell (.int .i64), .cell (.int .i64), .box 68 [.cell (.int .i64), .cell .bool]], [], 128⟩
noncomputable def l16_14 (k : Nat) (g14 : Y2_8) (l_2 : List Y2_0) (i2 : Int) (apart2 : Int) (r_ : Int) (rounds1 : Int) (lost1 : Int) (first : Int) (first1 : Bool) : Option Y2_5 :=
 (S39 k r_ apart2).bind fun q5 =>
 (S37 k first first1 q5.1.1 lost1).bind fun q6 =>
 sx l_2 0 i2 <|
 L16_18 k g14 k l_2 i2 apart2 r_ (IntKind.i64.wrap (rounds1 + 1)) lost1 first first1 q6.2.1.1 q6.2.1.2.1 (sub l_2 0 i2) ((sub l_2 0 i2).length : Int) 0
noncomputable def b16_14 (k : Nat) (g : ((Unit) × (List Y2_0) × Int × Int × Int × Int × Int × Y2_16 × Unit) → Option Y2_5) (d : (Unit) × (List Y2_0) × Int × Int × Int × Int × Int × Y2_16 × Unit) : Option Y2_5 := l16_14 k (fun l_2 i2 apart2 r_ rounds1 lost1 first first1 => g ((), l_2, i2, apart2, r_, rounds1, lost1, (first, first1, ()), ())) d.2.1 d.2.2.1 d.2.2.2.1 d.2.2.2.2.1 d.2.2.2.2.2.1 d.2.2.2.2.2.2.1 d.2.2.2.2.2.2.2.1.1 d.2.2.2.2.2.2.2.1.2.1
noncomputable def L16_14 (k : Nat) (j : Nat) (l_2 : List Y2_0) (i2 : Int) (apart2 : Int) (r_ : Int) (rounds1 : Int) (lost1 : Int) (first : Int) (first1 : Bool) : Option Y2_5 := iter (R := (Int × Int × Int × Unit) × Unit) c16_L14 (b16_14 k) j ((), l_2, i2, apart2, r_, rounds1, lost1, (first, first1, ()), ())
theorem L16_14_s (k : Nat) (j : Nat) (l_2 : List Y2_0) (i2 : Int) (apart2 : Int) (r_ : Int) (rounds1 : Int) (lost1 : Int) (first : Int) (first1 : Bool) : L16_14 k (j + 1) l_2 i2 apart2 r_ rounds1 lost1 first first1 = l16_14 k (L16_14 k j) l_2 i2 apart2 r_ rounds1 lost1 first first1 := iter_succ _ _ _ _
noncomputable abbrev c16_L6 : Cut := ⟨[0, 1, 2, 7, 9, 12, 54, 55, 56], [.cell Y2_15, .cell (.int .i64), .cell (.int .i64), .cell (.int .i64), .cell (.int .i64), .cell (.int .i64), .cell Y2_15, .cell (.int .i64), .cell (.int .i64)], [], 128⟩
noncomputable def l16_6 (k : Nat) (g6 : (List Y2_0) → Int → Int → Int → Int → Int → (List Y2_0) → Int → Int → Option Y2_5) (l_1 : List Y2_0) (i1 : Int) (apart1 : Int) (rounds : Int) (own : Int) (lost : Int) (t54 : List Y2_0) (t55 : Int) (t56 : Int) : Option Y2_5 :=
 (bif decide (t56 < t55) then
  ix t54 t56 <|
  (S36 k (rd t54 t56 (0, 0, 0, [], [], []))).bind fun q2 =>
  g6 l_1 i1 apart1 rounds own (mx lost q2.1.2.1) t54 t55 (IntKind.i64.wrap (t56 + 1))
 else
  (S38 k l_1 i1).bind fun q3 =>
  (S37 k own false 1 q3.1.1).bind fun q4 =>
  L16_14 k k l_1 i1 apart1 q4.2.1.1 rounds lost q4.2.1.1 q4.2.1.2.1)
noncomputable def b16_6 (k : Nat) (g : ((Unit) × (List Y2_0) × Int × Int × Int × Int × Int × (List Y2_0) × Int × Int × Unit) → Option Y2_5) (d : (Unit) × (List Y2_0) × Int × Int × Int × Int × Int × (List Y2_0) × Int × Int × Unit) : Option Y2_5 := l16_6 k (fun l_1 i1 apart1 rounds own lost t54 t55 t56 => g ((), l_1, i1, apart1, rounds, own, lost, t54, t55, t56, ())) d.2.1 d.2.2.1 d.2.2.2.1 d.2.2.2.2.1 d.2.2.2.2.2.1 d.2.2.2.2.2.2.1 d.2.2.2.2.2.2.2.1 d.2.2.2.2.2.2.2.2.1 d.2.2.2.2.2.2.2.2.2.1
noncomputable def L16_6 (k : Nat) (j : Nat) (l_1 : List Y2_0) (i1 : Int) (apart1 : Int) (rounds : Int) (own : Int) (lost : Int) (t54 : List Y2_0) (t55 : Int) (t56 : Int) : Option Y2_5 := iter (R := (Int × Int × Int × Unit) × Unit) c16_L6 (b16_6 k) j ((), l_1, i1, apart1, rounds, own, lost, t54, t55, t56, ())
theorem L16_6_s (k : Nat) (j : Nat) (l_1 : List Y2_0) (i1 : Int) (apart1 : Int) (rounds : Int) (own : Int) (lost : Int) (t54 : List Y2_0) (t55 : Int) (t56 : Int) : L16_6 k (j + 1) l_1 i1 apart1 rounds own lost t54 t55 t56 = l16_6 k (L16_6 k j) l_1 i1 apart1 rounds own lost t54 t55 t56 := iter_succ _ _ _ _
noncomputable def S16 (k : Nat) (l_ : List Y2_0) (i : Int) (apart : Int) : Option Y2_5 :=
 (S35 k l_).bind fun q0 =>
 (bif !q0.1.1 then
  some ((0, 0, 1, ()), ())
 else
  (bif decide (i < 0) then
   some ((0, 0, 1, ()), ())
  else
   (bif decide (i ≥ (l_.length : Int)) then
    some ((0, 0, 1, ()), ())
   else
    (bif decide (apart < 1) then
     some ((0, 0, 1, ()), ())
    else
     ix l_ i <|
     (S36 k (rd l_ i (0, 0, 0, [], [], []))).bind fun q1 =>
     sx l_ 0 (IntKind.i64.wrap (i + 1)) <|
     L16_6 k k l_ i apart 0 q1.1.1 0 (sub l_ 0 (IntKind.i64.wrap (i + 1))) ((sub l_ 0 (IntKind.i64.wrap (i + 1))).length : Int) 0))))
noncomputable def E16 : Env := tab.env (lk [(35, F35), (36, F36), (37, F37), (38, F38), (39, F39)]) (hintL [])
theorem E16_ok : EnvOK Try.prog E16 := envOK_of tabOK _ _ (allFn_lk (l := [(35, F35), (36, F36), (37, F37), (38, F38), (39, F39)]) ⟨ok35, ok36, ok37, ok38, ok39, trivial⟩)
noncomputable def B16 (k : Nat) : Tbl (RD R16 × MD P16) := (.loop 14 c16_L14 (b16_14 k) (fun g => (fun (g14 : Y2_8) => (.loop 18 c16_L18 (b16_18 k g14) (fun g => .nil) .nil)) (fun l_2 i2 apart2 r_ rounds1 lost1 first first1 => g ((), l_2, i2, apart2, r_, rounds1, lost1, (first, first1, ()), ()))) (.loop 6 c16_L6 (b16_6 k) (fun g => .nil) .nil))
noncomputable def F16 : Fn := ⟨P16, R16, fun k x => S16 k x.1 x.2.1 x.2.2.1⟩
theorem ok16 : FnOK Try.prog 16 F16 := evalF_ok (E := E16) (T := B16) E16_ok mix Try.func16 rfl (by kernel_rfl) (by kernel_rfl) (fun k => by kernel_rfl) (fun k x => by kernel_rfl)
noncomputable abbrev P14 : List PT := []
noncomputable abbrev R14 : List RT := [.val ⟨false, .bool, true⟩]
noncomputable def S14 (k : Nat) : Option ((Bool × Unit) × Unit) :=
 (S16 k ([(1, 50, 50, ([(1, 0, 0, 0), (1, 0, 0, 0), (0, 0, 0, 0)] : List Y2_9), [], [])] : List Y2_0) 0 100).bind fun q0 =>
 (S16 k ([(1, 50, 50, ([(1, 0, 0, 0), (1, 0, 0, 0), (0, 0, 0, 0)] : List Y2_9), [], [])] : List Y2_0) 1 100).bind fun q1 =>
 (bif q0.1.2.2.1 == 0 then
  (bif q0.1.1 == 6 then
   (bif q0.1.2.1 == 2 then
    some ((q1.1.2.2.1 == 1, ()), ())
   else
    some ((false, ()), ()))
  else
   some ((false, ()), ()))
 else
  some ((false, ()), ()))
noncomputable def E14 : Env := tab.env (lk [(16, F16)]) (hintL [])
theorem E14_ok : EnvOK Try.prog E14 := envOK_of tabOK _ _ (allFn_lk (l := [(16, F16)]) ⟨ok16, trivial⟩)
noncomputable def B14 (k : Nat) : Tbl (RD R14 × MD P14) := .nil
noncomputable def F14 : Fn := ⟨P14, R14, fun k x => S14 k ⟩
theorem ok14 : FnOK Try.prog 14 F14 := evalF_ok (E := E14) (T := B14) E14_ok mix Try.func14 rfl (by kernel_rfl) (by kernel_rfl) (fun k => by kernel_rfl) (fun k x => by kernel_rfl)
noncomputable abbrev P24 : List PT := [.val ⟨false, (.sl 5 (.int .u8)), false⟩]
noncomputable abbrev R24 : List RT := [.pv (.box 79 [.cell (.sl 5 (.int .u8)), .cell (.int .i64)])]
noncomputable def S24 (k : Nat) (l_ : List Int) : Option ((((List Int) × Int × Unit) × Unit) × Unit) :=
 some (((l_, 0, ()), ()), ())
noncomputable def E24 : Env := tab.env (lk []) (hintL [])
theorem E24_ok : EnvOK Try.prog E24 := envOK_of tabOK _ _ (fun f F h => by cases h)
noncomputable def B24 (k : Nat) : Tbl (RD R24 × MD P24) := .nil
noncomputable def F24 : Fn := ⟨P24, R24, fun k x => S24 k x.1⟩
theorem ok24 : FnOK Try.prog 24 F24 := evalF_ok (E := E24) (T := B24) E24_ok mix Try.func24 rfl (by kernel_rfl) (by kernel_rfl) (fun k => by kernel_rfl) (fun k x => by kernel_rfl)
end Go.Proofs.Ytinopkpnlibopaa.Ab
