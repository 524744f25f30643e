import Derived.Test.YthmicjldfdadjaaPbC
/- Contracts, printed by this session's own program gen.py. -/
set_option linter.unusedVariables false
set_option linter.unusedSimpArgs false
set_option maxRecDepth 100000
namespace Go.Proofs.Ythmicjldfdadjaa.Ab
open Go.RowKit Go.Proofs.YthmicjldfdadjaaW.PrintWords
abbrev Y0_0 : Type := Int × Int × Int × Int
abbrev Y0_1 : Ty := .pair (.int .i64) (.pair (.int .i64) (.pair (.int .i64) (.int .i64)))
abbrev Y0_2 : Type := Int × Int × Int × Bool
abbrev Y0_3 : Type := (List Y0_0) → (List Y0_2) → (List Int) → (List Y0_2) → Int → Int → Option ((Bool × Unit) × Unit)
abbrev Y0_4 : Ty := .pair (.int .i64) (.pair (.int .i64) (.pair (.int .i64) .bool))
abbrev Y0_5 : Type := (Int × Unit) × Unit
abbrev Y0_6 : Type := (Bool × Unit) × Unit
abbrev Y0_7 : Type := Int × Int × Int × (List Y0_0) × (List Y0_0) × List Y0_0
abbrev Y0_8 : Ty := .pair (.int .i64) (.pair (.int .i64) (.pair (.int .i64) (.pair (.sl 42 Y0_1) (.pair (.sl 42 Y0_1) (.sl 42 Y0_1)))))
abbrev Y0_9 : Type := ((List Y0_0) × Unit) × Unit
abbrev Y0_10 : Ty := .sl 42 Y0_1
abbrev Y0_11 : Type := ((List Y0_2) × Unit) × Unit
abbrev Y0_12 : Type := List (List Y0_0)
noncomputable abbrev P65 : List PT := [.pv (.nil), .val ⟨false, (.int .i64), false⟩]
noncomputable abbrev R65 : List RT := [.val ⟨false, Y0_10, true⟩]
noncomputable def S65 (k : Nat) (n : Int) : Option Y0_9 :=
 (bif decide (n < 0) then
  none
 else
  (bif decide ((IntKind.i64.wrap (n - 0)) > 0) then
   az ([] : List Y0_0) (IntKind.i64.wrap (n - 0)) 32 (0, 0, 0, 0) fun r0 =>
   sx r0 0 0 <|
   some ((r0.take 0, ()), ())
  else
   some (([], ()), ())))
noncomputable def E65 : Env := tab.env (lk []) (hintL [(25, 1)])
theorem E65_ok : EnvOK Try.prog E65 := envOK_of tabOK _ _ (fun f F h => by cases h)
noncomputable def B65 (k : Nat) : Tbl (RD R65 × MD P65) := .nil
noncomputable def F65 : Fn := ⟨P65, R65, fun k x => S65 k x.2.1⟩
theorem ok65 : FnOK Try.prog 65 F65 := evalF_ok (E := E65) (T := B65) E65_ok mix Try.func65 rfl (by kernel_rfl) (by kernel_rfl) (fun k => by kernel_rfl) (fun k x => by kernel_rfl)
noncomputable abbrev P43 : List PT := [.val ⟨false, (.sl 22 Y0_10), false⟩]
noncomputable abbrev R43 : List RT := [.val ⟨false, Y0_10, true⟩]
noncomputable abbrev c43_L11 : Cut := ⟨[6, 25, 26, 27], [.own 42 Y0_1, .cell (.sl 22 Y0_10), .cell (.int .i64), .cell (.int .i64)], [], 36⟩
noncomputable def l43_11 (k : Nat) (g11 : (List Y0_0) → Y0_12 → Int → Int → Option Y0_9) (newslice : List Y0_0) (t25 : List (List Y0_0)) (t26 : Int) (t27 : Int) : Option Y0_9 :=
 (bif decide (t27 < t26) then
  ix t25 t27 <|
  ap newslice (rd t25 t27 []) 32 fun r1 =>
  g11 r1 t25 t26 (IntKind.i64.wrap (t27 + 1))
 else
  some ((newslice, ()), ()))
noncomputable def b43_11 (k : Nat) (g : ((Unit) × (List Y0_0) × Y0_12 × Int × Int × Unit) → Option Y0_9) (d : (Unit) × (List Y0_0) × Y0_12 × Int × Int × Unit) : Option Y0_9 := l43_11 k (fun newslice t25 t26 t27 => g ((), newslice, t25, t26, t27, ())) d.2.1 d.2.2.1 d.2.2.2.1 d.2.2.2.2.1
noncomputable def L43_11 (k : Nat) (j : Nat) (newslice : List Y0_0) (t25 : List (List Y0_0)) (t26 : Int) (t27 : Int) : Option Y0_9 := iter (R := ((List Y0_0) × Unit) × Unit) c43_L11 (b43_11 k) j ((), newslice, t25, t26, t27, ())
theorem L43_11_s (k : Nat) (j : Nat) (newslice : List Y0_0) (t25 : List (List Y0_0)) (t26 : Int) (t27 : Int) : L43_11 k (j + 1) newslice t25 t26 t27 = l43_11 k (L43_11 k j) newslice t25 t26 t27 := iter_succ _ _ _ _
noncomputable abbrev c43_L3 : Cut := ⟨[0, 3, 9, 10, 11], [.cell (.sl 22 Y0_10), .cell (.int .i64), .cell (.sl 22 Y0_10), .cell (.int .i64), .cell (.int .i64)], [], 36⟩
noncomputable def l43_3 (k : Nat) (g3 : Y0_12 → Int → Y0_12 → Int → Int → Option Y0_9) (slices1 : List (List Y0_0)) (size : Int) (t9 : List (List Y0_0)) (t10 : Int) (t11 : Int) : Option Y0_9 :=
 (bif decide (t11 < t10) then
  ix t9 t11 <|
  (bif decide ((IntKind.i64.wrap (size + ((rd t9 t11 []).length : Int))) < 0) then
   none
  else
   g3 slices1 (IntKind.i64.wrap (size + ((rd t9 t11 []).length : Int))) t9 t10 (IntKind.i64.wrap (t11 + 1)))
 else
  (S65 k size).bind fun q0 =>
  L43_11 k k q0.1.1 slices1 (slices1.length : Int) 0)
noncomputable def b43_3 (k : Nat) (g : ((Unit) × Y0_12 × Int × Y0_12 × Int × Int × Unit) → Option Y0_9) (d : (Unit) × Y0_12 × Int × Y0_12 × Int × Int × Unit) : Option Y0_9 := l43_3 k (fun slices1 size t9 t10 t11 => g ((), slices1, size, t9, t10, t11, ())) d.2.1 d.2.2.1 d.2.2.2.1 d.2.2.2.2.1 d.2.2.2.2.2.1
noncomputable def L43_3 (k : Nat) (j : Nat) (slices1 : List (List Y0_0)) (size : Int) (t9 : List (List Y0_0)) (t10 : Int) (t11 : Int) : Option Y0_9 := iter (R := ((List Y0_0) × Unit) × Unit) c43_L3 (b43_3 k) j ((), slices1, size, t9, t10, t11, ())
theorem L43_3_s (k : Nat) (j : Nat) (slices1 : List (List Y0_0)) (size : Int) (t9 : List (List Y0_0)) (t10 : Int) (t11 : Int) : L43_3 k (j + 1) slices1 size t9 t10 t11 = l43_3 k (L43_3 k j) slices1 size t9 t10 t11 := iter_succ _ _ _ _
noncomputable def S43 (k : Nat) (slices : List (List Y0_0)) : Option Y0_9 :=
 L43_3 k k slices 0 slices (slices.length : Int) 0
noncomputable def E43 : Env := tab.env (lk [(65, F65)]) (hintL [])
theorem E43_ok : EnvOK Try.prog E43 := envOK_of tabOK _ _ (allFn_lk (l := [(65, F65)]) ⟨ok65, trivial⟩)
noncomputable def B43 (k : Nat) : Tbl (RD R43 × MD P43) := (.loop 11 c43_L11 (b43_11 k) (fun g => .nil) (.loop 3 c43_L3 (b43_3 k) (fun g => .nil) .nil))
noncomputable def F43 : Fn := ⟨P43, R43, fun k x => S43 k x.1⟩
theorem ok43 : FnOK Try.prog 43 F43 := evalF_ok (E := E43) (T := B43) E43_ok mix Try.func43 rfl (by kernel_rfl) (by kernel_rfl) (fun k => by kernel_rfl) (fun k x => by kernel_rfl)
noncomputable abbrev P44 : List PT := [.val ⟨true, Y0_1, false⟩, .pv (.ref (.int .i64))]
noncomputable abbrev R44 : List RT := [.val ⟨false, .bool, true⟩]
noncomputable def S44 (k : Nat) (i : Int × Int × Int × Int) (x1 : Int) : Option Y0_6 :=
 (bif i.1 == 9 then
  some ((i.2.1 == x1, ()), ())
 else
  some ((false, ()), ()))
noncomputable def E44 : Env := tab.env (lk []) (hintL [])
theorem E44_ok : EnvOK Try.prog E44 := envOK_of tabOK _ _ (fun f F h => by cases h)
noncomputable def B44 (k : Nat) : Tbl (RD R44 × MD P44) := .nil
noncomputable def F44 : Fn := ⟨P44, R44, fun k x => S44 k x.1 x.2.1⟩
theorem ok44 : FnOK Try.prog 44 F44 := evalF_ok (E := E44) (T := B44) E44_ok mix Try.func44 rfl (by kernel_rfl) (by kernel_rfl) (fun k => by kernel_rfl) (fun k x => by kernel_rfl)
noncomputable abbrev P55 : List PT := [.val ⟨false, Y0_10, false⟩, .pv (.clo 44 [.ref (.int .i64)])]
noncomputable abbrev R55 : List RT := [.val ⟨false, (.int .i64), true⟩]
noncomputable abbrev c55_L2 : Cut := ⟨[0, 1, 7, 8], [.cell Y0_10, .clo 44 [.ref (.int .i64)], .cell (.int .i64), .cell (.int .i64)], [], 19⟩
noncomputable def l55_2 (k : Nat) (g2 : (List Y0_0) → Int → Int → Int → Option Y0_5) (s1 : List Y0_0) (f1 : Int) (t7 : Int) (t8 : Int) : Option Y0_5 :=
 (bif decide (t8 < t7) then
  ix s1 t8 <|
  (S44 k (rd s1 t8 (0, 0, 0, 0)) f1).bind fun q0 =>
  (bif q0.1.1 then
   some ((t8, ()), ())
  else
   g2 s1 f1 t7 (IntKind.i64.wrap (t8 + 1)))
 else
  some (((-1), ()), ()))
noncomputable def b55_2 (k : Nat) (g : ((Unit) × (List Y0_0) × (Int × Unit) × Int × Int × Unit) → Option Y0_5) (d : (Unit) × (List Y0_0) × (Int × Unit) × Int × Int × Unit) : Option Y0_5 := l55_2 k (fun s1 f1 t7 t8 => g ((), s1, (f1, ()), t7, t8, ())) d.2.1 d.2.2.1.1 d.2.2.2.1 d.2.2.2.2.1
noncomputable def L55_2 (k : Nat) (j : Nat) (s1 : List Y0_0) (f1 : Int) (t7 : Int) (t8 : Int) : Option Y0_5 := iter (R := (Int × Unit) × Unit) c55_L2 (b55_2 k) j ((), s1, (f1, ()), t7, t8, ())
theorem L55_2_s (k : Nat) (j : Nat) (s1 : List Y0_0) (f1 : Int) (t7 : Int) (t8 : Int) : L55_2 k (j + 1) s1 f1 t7 t8 = l55_2 k (L55_2 k j) s1 f1 t7 t8 := iter_succ _ _ _ _
noncomputable def S55 (k : Nat) (s : List Y0_0) (f : Int) : Option Y0_5 :=
 L55_2 k k s f (s.length : Int) 0
noncomputable def E55 : Env := tab.env (lk [(44, F44)]) (hintL [])
theorem E55_ok : EnvOK Try.prog E55 := envOK_of tabOK _ _ (allFn_lk (l := [(44, F44)]) ⟨ok44, trivial⟩)
noncomputable def B55 (k : Nat) : Tbl (RD R55 × MD P55) := (.loop 2 c55_L2 (b55_2 k) (fun g => .nil) .nil)
noncomputable def F55 : Fn := ⟨P55, R55, fun k x => S55 k x.1 x.2.1.1⟩
theorem ok55 : FnOK Try.prog 55 F55 := evalF_ok (E := E55) (T := B55) E55_ok mix Try.func55 rfl (by kernel_rfl) (by kernel_rfl) (fun k => by kernel_rfl) (fun k x => by kernel_rfl)
noncomputable abbrev P42 : List PT := [.val ⟨false, Y0_10, false⟩, .pv (.clo 44 [.ref (.int .i64)])]
noncomputable abbrev R42 : List RT := [.val ⟨false, .bool, true⟩]
noncomputable def S42 (k : Nat) (s : List Y0_0) (f : Int) : Option Y0_6 :=
 (S55 k s f).bind fun q0 =>
 some ((decide (q0.1.1 ≥ 0), ()), ())
noncomputable def E42 : Env := tab.env (lk [(55, F55)]) (hintL [])
theorem E42_ok : EnvOK Try.prog E42 := envOK_of tabOK _ _ (allFn_lk (l := [(55, F55)]) ⟨ok55, trivial⟩)
noncomputable def B42 (k : Nat) : Tbl (RD R42 × MD P42) := .nil
noncomputable def F42 : Fn := ⟨P42, R42, fun k x => S42 k x.1 x.2.1.1⟩
theorem ok42 : FnOK Try.prog 42 F42 := evalF_ok (E := E42) (T := B42) E42_ok mix Try.func42 rfl (by kernel_rfl) (by kernel_rfl) (fun k => by kernel_rfl) (fun k x => by kernel_rfl)
noncomputable abbrev P41 : List PT := [.val ⟨true, Y0_8, false⟩, .pv (.ref (.int .i64))]
noncomputable abbrev R41 : List RT := [.val ⟨false, .bool, true⟩]
noncomputable def S41 (k : Nat) (t : Int × Int × Int × (List Y0_0) × (List Y0_0) × List Y0_0) (x1 : Int) : Option Y0_6 :=
 (S43 k ([t.2.2.2.1, t.2.2.2.2.1] : List (List Y0_0))).bind fun q0 =>
 (S42 k q0.1.1 x1).bind fun q1 =>
 some ((q1.1.1, ()), ())
noncomputable def E41 : Env := tab.env (lk [(42, F42), (43, F43)]) (hintL [])
theorem E41_ok : EnvOK Try.prog E41 := envOK_of tabOK _ _ (allFn_lk (l := [(42, F42), (43, F43)]) ⟨ok42, ok43, trivial⟩)
noncomputable def B41 (k : Nat) : Tbl (RD R41 × MD P41) := .nil
noncomputable def F41 : Fn := ⟨P41, R41, fun k x => S41 k x.1 x.2.1⟩
theorem ok41 : FnOK Try.prog 41 F41 := evalF_ok (E := E41) (T := B41) E41_ok mix Try.func41 rfl (by kernel_rfl) (by kernel_rfl) (fun k => by kernel_rfl) (fun k x => by kernel_rfl)
noncomputable abbrev P40 : List PT := [.val ⟨false, (.sl 24 Y0_8), false⟩, .pv (.clo 41 [.ref (.int .i64)])]
noncomputable abbrev R40 : List RT := [.val ⟨false, (.int .i64), true⟩]
noncomputable abbrev c40_L2 : Cut := ⟨[0, 1, 7, 8], [.cell (.sl 24 Y0_8), .clo 41 [.ref (.int .i64)], .cell (.int .i64), .cell (.int .i64)], [], 19⟩
noncomputable def l40_2 (k : Nat) (g2 : (List Y0_7) → Int → Int → Int → Option Y0_5) (s1 : List Y0_7) (f1 : Int) (t7 : Int) (t8 : Int) : Option Y0_5 :=
 (bif decide (t8 < t7) then
  ix s1 t8 <|
  (S41 k (rd s1 t8 (0, 0, 0, [], [], [])) f1).bind fun q0 =>
  (bif q0.1.1 then
   some ((t8, ()), ())
  else
   g2 s1 f1 t7 (IntKind.i64.wrap (t8 + 1)))
 else
  some (((-1), ()), ()))
noncomputable def b40_2 (k : Nat) (g : ((Unit) × (List Y0_7) × (Int × Unit) × Int × Int × Unit) → Option Y0_5) (d : (Unit) × (List Y0_7) × (Int × Unit) × Int × Int × Unit) : Option Y0_5 := l40_2 k (fun s1 f1 t7 t8 => g ((), s1, (f1, ()), t7, t8, ())) d.2.1 d.2.2.1.1 d.2.2.2.1 d.2.2.2.2.1
noncomputable def L40_2 (k : Nat) (j : Nat) (s1 : List Y0_7) (f1 : Int) (t7 : Int) (t8 : Int) : Option Y0_5 := iter (R := (Int × Unit) × Unit) c40_L2 (b40_2 k) j ((), s1, (f1, ()), t7, t8, ())
theorem L40_2_s (k : Nat) (j : Nat) (s1 : List Y0_7) (f1 : Int) (t7 : Int) (t8 : Int) : L40_2 k (j + 1) s1 f1 t7 t8 = l40_2 k (L40_2 k j) s1 f1 t7 t8 := iter_succ _ _ _ _
noncomputable def S40 (k : Nat) (s : List Y0_7) (f : Int) : Option Y0_5 :=
 L40_2 k k s f (s.length : Int) 0
noncomputable def E40 : Env := tab.env (lk [(41, F41)]) (hintL [])
theorem E40_ok : EnvOK Try.prog E40 := envOK_of tabOK _ _ (allFn_lk (l := [(41, F41)]) ⟨ok41, trivial⟩)
noncomputable def B40 (k : Nat) : Tbl (RD R40 × MD P40) := (.loop 2 c40_L2 (b40_2 k) (fun g => .nil) .nil)
noncomputable def F40 : Fn := ⟨P40, R40, fun k x => S40 k x.1 x.2.1.1⟩
theorem ok40 : FnOK Try.prog 40 F40 := evalF_ok (E := E40) (T := B40) E40_ok mix Try.func40 rfl (by kernel_rfl) (by kernel_rfl) (fun k => by kernel_rfl) (fun k x => by kernel_rfl)
noncomputable abbrev P25 : List PT := [.val ⟨false, (.sl 24 Y0_8), false⟩, .val ⟨false, (.int .i64), false⟩]
noncomputable abbrev R25 : List RT := [.val ⟨false, (.int .i64), true⟩]
noncomputable def S25 (k : Nat) (l_ : List Y0_7) (s : Int) : Option Y0_5 :=
 (S40 k l_ s).bind fun q0 =>
 (bif decide (q0.1.1 < 0) then
  some ((8, ()), ())
 else
  some ((q0.1.1, ()), ()))
noncomputable def E25 : Env := tab.env (lk [(40, F40)]) (hintL [])
theorem E25_ok : EnvOK Try.prog E25 := envOK_of tabOK _ _ (allFn_lk (l := [(40, F40)]) ⟨ok40, trivial⟩)
noncomputable def B25 (k : Nat) : Tbl (RD R25 × MD P25) := .nil
noncomputable def F25 : Fn := ⟨P25, R25, fun k x => S25 k x.1 x.2.1⟩
theorem ok25 : FnOK Try.prog 25 F25 := evalF_ok (E := E25) (T := B25) E25_ok mix Try.func25 rfl (by kernel_rfl) (by kernel_rfl) (fun k => by kernel_rfl) (fun k x => by kernel_rfl)
noncomputable abbrev P72 : List PT := [.val ⟨false, (.int .i64), false⟩]
noncomputable abbrev R72 : List RT := [.val ⟨false, .bool, true⟩]
noncomputable def S72 (k : Nat) (a : Int) : Option Y0_6 :=
 (bif decide (a ≥ 0) then
  some ((decide (a < 8), ()), ())
 else
  some ((false, ()), ()))
noncomputable def E72 : Env := tab.env (lk []) (hintL [])
theorem E72_ok : EnvOK Try.prog E72 := envOK_of tabOK _ _ (fun f F h => by cases h)
noncomputable def B72 (k : Nat) : Tbl (RD R72 × MD P72) := .nil
noncomputable def F72 : Fn := ⟨P72, R72, fun k x => S72 k x.1⟩
theorem ok72 : FnOK Try.prog 72 F72 := evalF_ok (E := E72) (T := B72) E72_ok mix Try.func72 rfl (by kernel_rfl) (by kernel_rfl) (fun k => by kernel_rfl) (fun k x => by kernel_rfl)
noncomputable abbrev P73 : List PT := [.val ⟨false, (.int .i64), false⟩, .val ⟨false, (.int .i64), false⟩, .val ⟨false, (.int .i64), false⟩]
noncomputable abbrev R73 : List RT := [.val ⟨false, .bool, true⟩]
noncomputable def S73 (k : Nat) (v : Int) (from_ : Int) (to_ : Int) : Option Y0_6 :=
 (bif decide (v ≥ from_) then
  some ((decide (v ≤ to_), ()), ())
 else
  some ((false, ()), ()))
noncomputable def E73 : Env := tab.env (lk []) (hintL [])
theorem E73_ok : EnvOK Try.prog E73 := envOK_of tabOK _ _ (fun f F h => by cases h)
noncomputable def B73 (k : Nat) : Tbl (RD R73 × MD P73) := .nil
noncomputable def F73 : Fn := ⟨P73, R73, fun k x => S73 k x.1 x.2.1 x.2.2.1⟩
theorem ok73 : FnOK Try.prog 73 F73 := evalF_ok (E := E73) (T := B73) E73_ok mix Try.func73 rfl (by kernel_rfl) (by kernel_rfl) (fun k => by kernel_rfl) (fun k x => by kernel_rfl)
noncomputable abbrev P54 : List PT := [.val ⟨true, Y0_1, false⟩]
noncomputable abbrev R54 : List RT := [.val ⟨false, .bool, true⟩]
noncomputable def S54 (k : Nat) (i : Int × Int × Int × Int) : Option Y0_6 :=
 (bif i.1 == 0 then
  (bif i.2.1 == 0 then
   (bif i.2.2.1 == 0 then
    some ((i.2.2.2 == 0, ()), ())
   else
    some ((false, ()), ()))
  else
   some ((false, ()), ()))
 else
  (bif i.1 == 11 then
   (bif i.2.1 == 0 then
    (bif i.2.2.1 == 0 then
     some ((i.2.2.2 == 0, ()), ())
    else
     some ((false, ()), ()))
   else
    some ((false, ()), ()))
  else
   (bif i.1 == 1 then
    (S72 k i.2.1).bind fun q0 =>
    (bif q0.1.1 then
     (bif i.2.2.1 == 0 then
      (S73 k i.2.2.2 (-2147483648) 2147483647).bind fun q1 =>
      some ((q1.1.1, ()), ())
     else
      some ((false, ()), ()))
    else
     some ((false, ()), ()))
   else
    (bif i.1 == 2 then
     (S72 k i.2.1).bind fun q2 =>
     (bif q2.1.1 then
      (S72 k i.2.2.1).bind fun q3 =>
      (bif q3.1.1 then
       some ((i.2.2.2 == 0, ()), ())
      else
       some ((false, ()), ()))
     else
      some ((false, ()), ()))
    else
     (bif i.1 == 3 then
      (S72 k i.2.1).bind fun q4 =>
      (bif q4.1.1 then
       (S72 k i.2.2.1).bind fun q5 =>
       (bif q5.1.1 then
        some ((i.2.2.2 == 0, ()), ())
       else
        some ((false, ()), ()))
      else
       some ((false, ()), ()))
     else
      (bif i.1 == 4 then
       (S72 k i.2.1).bind fun q6 =>
       (bif q6.1.1 then
        (S72 k i.2.2.1).bind fun q7 =>
        (bif q7.1.1 then
         some ((i.2.2.2 == 0, ()), ())
        else
         some ((false, ()), ()))
       else
        some ((false, ()), ()))
      else
       (bif i.1 == 5 then
        (S72 k i.2.1).bind fun q8 =>
        (bif q8.1.1 then
         (bif i.2.2.1 == 0 then
          (S73 k i.2.2.2 (-63) 63).bind fun q9 =>
          some ((q9.1.1, ()), ())
         else
          some ((false, ()), ()))
        else
         some ((false, ()), ()))
       else
        (bif i.1 == 6 then
         (S72 k i.2.1).bind fun q10 =>
         (bif q10.1.1 then
          (bif i.2.2.1 == 0 then
           (S73 k i.2.2.2 1 64).bind fun q11 =>
           some ((q11.1.1, ()), ())
          else
           some ((false, ()), ()))
         else
          some ((false, ()), ()))
        else
         (bif i.1 == 7 then
          (S72 k i.2.1).bind fun q12 =>
          (bif q12.1.1 then
           (bif i.2.2.1 == 0 then
            (S73 k i.2.2.2 1 24).bind fun q13 =>
            some ((q13.1.1, ()), ())
           else
            some ((false, ()), ()))
          else
           some ((false, ()), ()))
         else
          (bif i.1 == 8 then
           (bif i.2.1 == 0 then
            (S73 k i.2.2.1 1 24).bind fun q14 =>
            (bif q14.1.1 then
             (S73 k i.2.2.2 1 20).bind fun q15 =>
             some ((q15.1.1, ()), ())
            else
             some ((false, ()), ()))
           else
            some ((false, ()), ()))
          else
           (bif i.1 == 9 then
            (S73 k i.2.1 0 3).bind fun q16 =>
            (bif q16.1.1 then
             (bif i.2.2.1 == 0 then
              some ((i.2.2.2 == 0, ()), ())
             else
              some ((false, ()), ()))
            else
             some ((false, ()), ()))
           else
            (bif i.1 == 10 then
             (S73 k i.2.1 0 3).bind fun q17 =>
             (bif q17.1.1 then
              (bif i.2.2.1 == 0 then
               some ((i.2.2.2 == 0, ()), ())
              else
               some ((false, ()), ()))
             else
              some ((false, ()), ()))
            else
             some ((false, ()), ())))))))))))))
noncomputable def E54 : Env := tab.env (lk [(72, F72), (73, F73)]) (hintL [])
theorem E54_ok : EnvOK Try.prog E54 := envOK_of tabOK _ _ (allFn_lk (l := [(72, F72), (73, F73)]) ⟨ok72, ok73, trivial⟩)
noncomputable def B54 (k : Nat) : Tbl (RD R54 × MD P54) := .nil
noncomputable def F54 : Fn := ⟨P54, R54, fun k x => S54 k x.1⟩
theorem ok54 : FnOK Try.prog 54 F54 := evalF_ok (E := E54) (T := B54) E54_ok mix Try.func54 rfl (by kernel_rfl) (by kernel_rfl) (fun k => by kernel_rfl) (fun k x => by kernel_rfl)
noncomputable abbrev P53 : List PT := [.val ⟨true, Y0_1, false⟩]
noncomputable abbrev R53 : List RT := [.val ⟨false, .bool, true⟩]
noncomputable def S53 (k : Nat) (i : Int × Int × Int × Int) : Option Y0_6 :=
 (S54 k i).bind fun q0 =>
 some ((!q0.1.1, ()), ())
noncomputable def E53 : Env := tab.env (lk [(54, F54)]) (hintL [])
theorem E53_ok : EnvOK Try.prog E53 := envOK_of tabOK _ _ (allFn_lk (l := [(54, F54)]) ⟨ok54, trivial⟩)
noncomputable def B53 (k : Nat) : Tbl (RD R53 × MD P53) := .nil
noncomputable def F53 : Fn := ⟨P53, R53, fun k x => S53 k x.1⟩
theorem ok53 : FnOK Try.prog 53 F53 := evalF_ok (E := E53) (T := B53) E53_ok mix Try.func53 rfl (by kernel_rfl) (by kernel_rfl) (fun k => by kernel_rfl) (fun k x => by kernel_rfl)
noncomputable abbrev P55a : List PT := [.val ⟨false, Y0_10, false⟩, .pv (.clo 53 [])]
noncomputable abbrev R55a : List RT := [.val ⟨false, (.int .i64), true⟩]
noncomputable abbrev c55a_L2 : Cut := ⟨[0, 1, 7, 8], [.cell Y0_10, .clo 53 [], .cell (.int .i64), .cell (.int .i64)], [], 19⟩
noncomputable def l55a_2 (k : Nat) (g2 : (List Y0_0) → Int → Int → Option Y0_5) (s1 : List Y0_0) (t7 : Int) (t8 : Int) : Option Y0_5 :=
 (bif decide (t8 < t7) then
  ix s1 t8 <|
  (S53 k (rd s1 t8 (0, 0, 0, 0))).bind fun q0 =>
  (bif q0.1.1 then
   some ((t8, ()), ())
  else
   g2 s1 t7 (IntKind.i64.wrap (t8 + 1)))
 else
  some (((-1), ()), ()))
noncomputable def b55a_2 (k : Nat) (g : ((Unit) × (List Y0_0) × Unit × Int × Int × Unit) → Option Y0_5) (d : (Unit) × (List Y0_0) × Unit × Int × Int × Unit) : Option Y0_5 := l55a_2 k (fun s1 t7 t8 => g ((), s1, (), t7, t8, ())) d.2.1 d.2.2.2.1 d.2.2.2.2.1
noncomputable def L55a_2 (k : Nat) (j : Nat) (s1 : List Y0_0) (t7 : Int) (t8 : Int) : Option Y0_5 := iter (R := (Int × Unit) × Unit) c55a_L2 (b55a_2 k) j ((), s1, (), t7, t8, ())
theorem L55a_2_s (k : Nat) (j : Nat) (s1 : List Y0_0) (t7 : Int) (t8 : Int) : L55a_2 k (j + 1) s1 t7 t8 = l55a_2 k (L55a_2 k j) s1 t7 t8 := iter_succ _ _ _ _
noncomputable def S55a (k : Nat) (s : List Y0_0) : Option Y0_5 :=
 L55a_2 k k s (s.length : Int) 0
noncomputable def E55a : Env := tab.env (lk [(53, F53)]) (hintL [])
theorem E55a_ok : EnvOK Try.prog E55a := envOK_of tabOK _ _ (allFn_lk (l := [(53, F53)]) ⟨ok53, trivial⟩)
noncomputable def B55a (k : Nat) : Tbl (RD R55a × MD P55a) := (.loop 2 c55a_L2 (b55a_2 k) (fun g => .nil) .nil)
noncomputable def F55a : Fn := ⟨P55a, R55a, fun k x => S55a k x.1⟩
theorem ok55a : FnOK Try.prog 55 F55a := evalF_ok (E := E55a) (T := B55a) E55a_ok mix Try.func55 rfl (by kernel_rfl) (by kernel_rfl) (fun k => by kernel_rfl) (fun k x => by kernel_rfl)
noncomputable abbrev P42a : List PT := [.val ⟨false, Y0_10, false⟩, .pv (.clo 53 [])]
noncomputable abbrev R42a : List RT := [.val ⟨false, .bool, true⟩]
noncomputable def S42a (k : Nat) (s : List Y0_0) : Option Y0_6 :=
 (S55a k s).bind fun q0 =>
 some ((decide (q0.1.1 ≥ 0), ()), ())
noncomputable def E42a : Env := tab.env (lk [(55, F55a)]) (hintL [])
theorem E42a_ok : EnvOK Try.prog E42a := envOK_of tabOK _ _ (allFn_lk (l := [(55, F55a)]) ⟨ok55a, trivial⟩)
noncomputable def B42a (k : Nat) : Tbl (RD R42a × MD P42a) := .nil
noncomputable def F42a : Fn := ⟨P42a, R42a, fun k x => S42a k x.1⟩
theorem ok42a : FnOK Try.prog 42 F42a := evalF_ok (E := E42a) (T := B42a) E42a_ok mix Try.func42 rfl (by kernel_rfl) (by kernel_rfl) (fun k => by kernel_rfl) (fun k x => by kernel_rfl)
noncomputable abbrev P56 : List PT := [.val ⟨true, Y0_1, false⟩]
noncomputable abbrev R56 : List RT := [.val ⟨false, .bool, true⟩]
noncomputable def S56 (k : Nat) (i : Int × Int × Int × Int) : Option Y0_6 :=
 some ((i.1 == 0, ()), ())
noncomputable def E56 : Env := tab.env (lk []) (hintL [])
theorem E56_ok : EnvOK Try.prog E56 := envOK_of tabOK _ _ (fun f F h => by cases h)
noncomputable def B56 (k : Nat) : Tbl (RD R56 × MD P56) := .nil
noncomputable def F56 : Fn := ⟨P56, R56, fun k x => S56 k x.1⟩
theorem ok56 : FnOK Try.prog 56 F56 := evalF_ok (E := E56) (T := B56) E56_ok mix Try.func56 rfl (by kernel_rfl) (by kernel_rfl) (fun k => by kernel_rfl) (fun k x => by kernel_rfl)
noncomputable abbrev P55b : List PT := [.val ⟨false, Y0_10, false⟩, .pv (.clo 56 [])]
noncomputable abbrev R55b : List RT := [.val ⟨false, (.int .i64), true⟩]
noncomputable abbrev c55b_L2 : Cut := ⟨[0, 1, 7, 8], [.cell Y0_10, .clo 56 [], .cell (.int .i64), .cell (.int .i64)], [], 19⟩
noncomputable def l55b_2 (k : Nat) (g2 : (List Y0_0) → Int → Int → Option Y0_5) (s1 : List Y0_0) (t7 : Int) (t8 : Int) : Option Y0_5 :=
 (bif decide (t8 < t7) then
  ix s1 t8 <|
  (S56 k (rd s1 t8 (0, 0, 0, 0))).bind fun q0 =>
  (bif q0.1.1 then
   some ((t8, ()), ())
  else
   g2 s1 t7 (IntKind.i64.wrap (t8 + 1)))
 else
  some (((-1), ()), ()))
noncomputable def b55b_2 (k : Nat) (g : ((Unit) × (List Y0_0) × Unit × Int × Int × Unit) → Option Y0_5) (d : (Unit) × (List Y0_0) × Unit × Int × Int × Unit) : Option Y0_5 := l55b_2 k (fun s1 t7 t8 => g ((), s1, (), t7, t8, ())) d.2.1 d.2.2.2.1 d.2.2.2.2.1
noncomputable def L55b_2 (k : Nat) (j : Nat) (s1 : List Y0_0) (t7 : Int) (t8 : Int) : Option Y0_5 := iter (R := (Int × Unit) × Unit) c55b_L2 (b55b_2 k) j ((), s1, (), t7, t8, ())
theorem L55b_2_s (k : Nat) (j : Nat) (s1 : List Y0_0) (t7 : Int) (t8 : Int) : L55b_2 k (j + 1) s1 t7 t8 = l55b_2 k (L55b_2 k j) s1 t7 t8 := iter_succ _ _ _ _
noncomputable def S55b (k : Nat) (s : List Y0_0) : Option Y0_5 :=
 L55b_2 k k s (s.length : Int) 0
noncomputable def E55b : Env := tab.env (lk [(56, F56)]) (hintL [])
theorem E55b_ok : EnvOK Try.prog E55b := envOK_of tabOK _ _ (allFn_lk (l := [(56, F56)]) ⟨ok56, trivial⟩)
noncomputable def B55b (k : Nat) : Tbl (RD R55b × MD P55b) := (.loop 2 c55b_L2 (b55b_2 k) (fun g => .nil) .nil)
noncomputable def F55b : Fn := ⟨P55b, R55b, fun k x => S55b k x.1⟩
theorem ok55b : FnOK Try.prog 55 F55b := evalF_ok (E := E55b) (T := B55b) E55b_ok mix Try.func55 rfl (by kernel_rfl) (by kernel_rfl) (fun k => by kernel_rfl) (fun k x => by kernel_rfl)
noncomputable abbrev P74 : List PT := [.val ⟨false, Y0_10, false⟩]
noncomputable abbrev R74 : List RT := [.val ⟨false, (.sl 111 Y0_4), true⟩]
noncomputable abbrev c74_L2 : Cut := ⟨[2, 5, 6, 7], [.own 111 Y0_4, .cell Y0_10, .cell (.int .i64), .cell (.int .i64)], [], 42⟩
noncomputable def l74_2 (k : Nat) (g2 : (List Y0_2) → (List Y0_0) → Int → Int → Option Y0_11) (out : List Y0_2) (t5 : List Y0_0) (t6 : Int) (t7 : Int) : Option Y0_11 :=
 (bif decide (t7 < t6) then
  ix t5 t7 <|
  (bif (rd t5 t7 (0, 0, 0, 0)).1 == 8 then
   ap out ([(IntKind.i64.wrap (t7 + 1), IntKind.i64.wrap (t7 + (rd t5 t7 (0, 0, 0, 0)).2.2.1), t7, true)] : List Y0_2) 32 fun r0 =>
   g2 r0 t5 t6 (IntKind.i64.wrap (t7 + 1))
  else
   (bif (rd t5 t7 (0, 0, 0, 0)).1 == 7 then
    ap out ([(IntKind.i64.wrap (t7 + 1), IntKind.i64.wrap (t7 + (rd t5 t7 (0, 0, 0, 0)).2.2.2), t7, false)] : List Y0_2) 32 fun r1 =>
    g2 r1 t5 t6 (IntKind.i64.wrap (t7 + 1))
   else
    g2 out t5 t6 (IntKind.i64.wrap (t7 + 1))))
 else
  some ((out, ()), ()))
noncomputable def b74_2 (k : Nat) (g : ((Unit) × (List Y0_2) × (List Y0_0) × Int × Int × Unit) → Option Y0_11) (d : (Unit) × (List Y0_2) × (List Y0_0) × Int × Int × Unit) : Option Y0_11 := l74_2 k (fun out t5 t6 t7 => g ((), out, t5, t6, t7, ())) d.2.1 d.2.2.1 d.2.2.2.1 d.2.2.2.2.1
noncomputable def L74_2 (k : Nat) (j : Nat) (out : List Y0_2) (t5 : List Y0_0) (t6 : Int) (t7 : Int) : Option Y0_11 := iter (R := ((List Y0_2) × Unit) × Unit) c74_L2 (b74_2 k) j ((), out, t5, t6, t7, ())
theorem L74_2_s (k : Nat) (j : Nat) (out : List Y0_2) (t5 : List Y0_0) (t6 : Int) (t7 : Int) : L74_2 k (j + 1) out t5 t6 t7 = l74_2 k (L74_2 k j) out t5 t6 t7 := iter_succ _ _ _ _
noncomputable def S74 (k : Nat) (l_ : List Y0_0) : Option Y0_11 :=
 L74_2 k k ([] : List Y0_2) l_ (l_.length : Int) 0
noncomputable def E74 : Env := tab.env (lk []) (hintL [(2, 2)])
theorem E74_ok : EnvOK Try.prog E74 := envOK_of tabOK _ _ (fun f F h => by cases h)
noncomputable def B74 (k : Nat) : Tbl (RD R74 × MD P74) := (.loop 2 c74_L2 (b74_2 k) (fun g => .nil) .nil)
noncomputable def F74 : Fn := ⟨P74, R74, fun k x => S74 k x.1⟩
theorem ok74 : FnOK Try.prog 74 F74 := evalF_ok (E := E74) (T := B74) E74_ok mix Try.func74 rfl (by kernel_rfl) (by kernel_rfl) (fun k => by kernel_rfl) (fun k x => by kernel_rfl)
noncomputable abbrev P75 : List PT := [.val ⟨true, Y0_4, false⟩, .val ⟨false, (.int .i64), false⟩]
noncomputable abbrev R75 : List RT := [.val ⟨false, .bool, true⟩]
noncomputable def S75 (k : Nat) (p : Int × Int × Int × Bool) (i : Int) : Option Y0_6 :=
 (bif decide (i ≥ p.1) then
  some ((decide (i ≤ p.2.1), ()), ())
 else
  some ((false, ()), ()))
noncomputable def E75 : Env := tab.env (lk []) (hintL [])
theorem E75_ok : EnvOK Try.prog E75 := envOK_of tabOK _ _ (fun f F h => by cases h)
noncomputable def B75 (k : Nat) : Tbl (RD R75 × MD P75) := .nil
noncomputable def F75 : Fn := ⟨P75, R75, fun k x => S75 k x.1 x.2.1⟩
theorem ok75 : FnOK Try.prog 75 F75 := evalF_ok (E := E75) (T := B75) E75_ok mix Try.func75 rfl (by kernel_rfl) (by kernel_rfl) (fun k => by kernel_rfl) (fun k x => by kernel_rfl)
noncomputable abbrev P76 : List PT := [.val ⟨true, Y0_4, false⟩, .val ⟨true, Y0_4, false⟩]
noncomputable abbrev R76 : List RT := [.val ⟨false, .bool, true⟩]
noncomputable def S76 (k : Nat) (p : Int × Int × Int × Bool) (q_ : Int × Int × Int × Bool) : Option Y0_6 :=
 (S75 k q_ p.1).bind fun q0 =>
 (bif q0.1.1 then
  (S75 k q_ p.2.1).bind fun q1 =>
  some ((q1.1.1, ()), ())
 else
  some ((false, ()), ()))
noncomputable def E76 : Env := tab.env (lk [(75, F75)]) (hintL [])
theorem E76_ok : EnvOK Try.prog E76 := envOK_of tabOK _ _ (allFn_lk (l := [(75, F75)]) ⟨ok75, trivial⟩)
noncomputable def B76 (k : Nat) : Tbl (RD R76 × MD P76) := .nil
noncomputable def F76 : Fn := ⟨P76, R76, fun k x => S76 k x.1 x.2.1⟩
theorem ok76 : FnOK Try.prog 76 F76 := evalF_ok (E := E76) (T := B76) E76_ok mix Try.func76 rfl (by kernel_rfl) (by kernel_rfl) (fun k => by kernel_rfl) (fun k x => by kernel_rfl)
noncomputable abbrev P77 : List PT := [.val ⟨true, Y0_4, false⟩, .val ⟨true, Y0_4, false⟩]
noncomputable abbrev R77 : List RT := [.val ⟨false, .bool, true⟩]
noncomputable def S77 (k : Nat) (p : Int × Int × Int × Bool) (q_ : Int × Int × Int × Bool) : Option Y0_6 :=
 (bif decide (p.2.1 < q_.1) then
  some ((true, ()), ())
 else
  some ((decide (q_.2.1 < p.1), ()), ()))
noncomputable def E77 : Env := tab.env (lk []) (hintL [])
theorem E77_ok : EnvOK Try.prog E77 := envOK_of tabOK _ _ (fun f F h => by cases h)
noncomputable def B77 (k : Nat) : Tbl (RD R77 × MD P77) := .nil
noncomputable def F77 : Fn := ⟨P77, R77, fun k x => S77 k x.1 x.2.1⟩
theorem ok77 : FnOK Try.prog 77 F77 := evalF_ok (E := E77) (T := B77) E77_ok mix Try.func77 rfl (by kernel_rfl) (by kernel_rfl) (fun k => by kernel_rfl) (fun k x => by kernel_rfl)
noncomputable abbrev P78 : List PT := [.val ⟨false, (.int .i64), false⟩]
noncomputable abbrev R78 : List RT := [.val ⟨false, .bool, true⟩]
noncomputable def S78 (k : Nat) (n : Int) : Option Y0_6 :=
 some ((decide (n > 2), ()), ())
noncomputable def E78 : Env := tab.env (lk []) (hintL [])
theorem E78_ok : EnvOK Try.prog E78 := envOK_of tabOK _ _ (fun f F h => by cases h)
noncomputable def B78 (k : Nat) : Tbl (RD R78 × MD P78) := .nil
noncomputable def F78 : Fn := ⟨P78, R78, fun k x => S78 k x.1⟩
theorem ok78 : FnOK Try.prog 78 F78 := evalF_ok (E := E78) (T := B78) E78_ok mix Try.func78 rfl (by kernel_rfl) (by kernel_rfl) (fun k => by kernel_rfl) (fun k x => by kernel_rfl)
noncomputable abbrev P79 : List PT := [.val ⟨false, (.sl 3 (.int .i64)), false⟩, .pv (.clo 78 [])]
noncomputable abbrev R79 : List RT := [.val ⟨false, (.int .i64), true⟩]
noncomputable abbrev c79_L2 : Cut := ⟨[0, 1, 7, 8], [.cell (.sl 3 (.int .i64)), .clo 78 [], .cell (.int .i64), .cell (.int .i64)], [], 19⟩
noncomputable def l79_2 (k : Nat) (g2 : (List Int) → Int → Int → Option Y0_5) (s1 : List Int) (t7 : Int) (t8 : Int) : Option Y0_5 :=
 (bif decide (t8 < t7) then
  ix s1 t8 <|
  (S78 k (rd s1 t8 0)).bind fun q0 =>
  (bif q0.1.1 then
   some ((t8, ()), ())
  else
   g2 s1 t7 (IntKind.i64.wrap (t8 + 1)))
 else
  some (((-1), ()), ()))
noncomputable def b79_2 (k : Nat) (g : ((Unit) × (List Int) × Unit × Int × Int × Unit) → Option Y0_5) (d : (Unit) × (List Int) × Unit × Int × Int × Unit) : Option Y0_5 := l79_2 k (fun s1 t7 t8 => g ((), s1, (), t7, t8, ())) d.2.1 d.2.2.2.1 d.2.2.2.2.1
noncomputable def L79_2 (k : Nat) (j : Nat) (s1 : List Int) (t7 : Int) (t8 : Int) : Option Y0_5 := iter (R := (Int × Unit) × Unit) c79_L2 (b79_2 k) j ((), s1, (), t7, t8, ())
theorem L79_2_s (k : Nat) (j : Nat) (s1 : List Int) (t7 : Int) (t8 : Int) : L79_2 k (j + 1) s1 t7 t8 = l79_2 k (L79_2 k j) s1 t7 t8 := iter_succ _ _ _ _
noncomputable def S79 (k : Nat) (s : List Int) : Option Y0_5 :=
 L79_2 k k s (s.length : Int) 0
noncomputable def E79 : Env := tab.env (lk [(78, F78)]) (hintL [])
theorem E79_ok : EnvOK Try.prog E79 := envOK_of tabOK _ _ (allFn_lk (l := [(78, F78)]) ⟨ok78, trivial⟩)
noncomputable def B79 (k : Nat) : Tbl (RD R79 × MD P79) := (.loop 2 c79_L2 (b79_2 k) (fun g => .nil) .nil)
noncomputable def F79 : Fn := ⟨P79, R79, fun k x => S79 k x.1⟩
theorem ok79 : FnOK Try.prog 79 F79 := evalF_ok (E := E79) (T := B79) E79_ok mix Try.func79 rfl (by kernel_rfl) (by kernel_rfl) (fun k => by kernel_rfl) (fun k x => by kernel_rfl)
noncomputable abbrev P59 : List PT := [.val ⟨false, (.sl 3 (.int .i64)), false⟩, .pv (.clo 78 [])]
noncomputable abbrev R59 : List RT := [.val ⟨false, .bool, true⟩]
noncomputable def S59 (k : Nat) (s : List Int) : Option Y0_6 :=
 (S79 k s).bind fun q0 =>
 some ((decide (q0.1.1 ≥ 0), ()), ())
noncomputable def E59 : Env := tab.env (lk [(79, F79)]) (hintL [])
theorem E59_ok : EnvOK Try.prog E59 := envOK_of tabOK _ _ (allFn_lk (l := [(79, F79)]) ⟨ok79, trivial⟩)
noncomputable def B59 (k : Nat) : Tbl (RD R59 × MD P59) := .nil
noncomputable def F59 : Fn := ⟨P59, R59, fun k x => S59 k x.1⟩
theorem ok59 : FnOK Try.prog 59 F59 := evalF_ok (E := E59) (T := B59) E59_ok mix Try.func59 rfl (by kernel_rfl) (by kernel_rfl) (fun k => by kernel_rfl) (fun k x => by kernel_rfl)
noncomputable abbrev P57 : List PT := [.val ⟨false, Y0_10, false⟩]
noncomputable abbrev R57 : List RT := [.val ⟨false, .bool, true⟩]
noncomputable abbrev c57_L15 : Cut := ⟨[0, 3, 4, 6, 9, 15, 16, 17], [.cell Y0_10, .cell (.sl 111 Y0_4), .own 3 (.int .i64), .box 111 [.cell (.int .i64), .cell (.int .i64), .cell (.int .i64), .cell .bool], .cell (.int .i64), .cell (.sl 111 Y0_4), .cell (.int .i64), .cell (.int .i64)], [], 84⟩
noncomputable def l57_15 (k : Nat) (g4 : Y0_3) (g15 : (List Y0_0) → (List Y0_2) → (List Int) → Int → Int → Int → Bool → Int → (List Y0_2) → Int → Int → Option Y0_6) (l_3 : List Y0_0) (all2 : List Y0_2) (around2 : List Int) (p4 : Int) (p5 : Int) (p6 : Int) (p7 : Bool) (i : Int) (t15_2 : List Y0_2) (t16_2 : Int) (t17_2 : Int) : Option Y0_6 :=
 (bif p7 then
  (bif decide (i ≤ p5) then
   ix around2 i <|
   ix around2 i <|
   g15 l_3 all2 (upd around2 i (IntKind.i64.wrap ((rd around2 i 0) + 1))) p4 p5 p6 p7 (IntKind.i64.wrap (i + 1)) t15_2 t16_2 t17_2
  else
   g4 l_3 all2 around2 t15_2 t16_2 (IntKind.i64.wrap (t17_2 + 1)))
 else
  g4 l_3 all2 around2 t15_2 t16_2 (IntKind.i64.wrap (t17_2 + 1)))
noncomputable def b57_15 (k : Nat) (g4 : Y0_3) (g : ((Unit) × (List Y0_0) × (List Y0_2) × (List Int) × (Int × Int × Int × Bool × Unit) × Int × (List Y0_2) × Int × Int × Unit) → Option Y0_6) (d : (Unit) × (List Y0_0) × (List Y0_2) × (List Int) × (Int × Int × Int × Bool × Unit) × Int × (List Y0_2) × Int × Int × Unit) : Option Y0_6 := l57_15 k g4 (fun l_3 all2 around2 p4 p5 p6 p7 i t15_2 t16_2 t17_2 => g ((), l_3, all2, around2, (p4, p5, p6, p7, ()), i, t15_2, t16_2, t17_2, ())) d.2.1 d.2.2.1 d.2.2.2.1 d.2.2.2.2.1.1 d.2.2.2.2.1.2.1 d.2.2.2.2.1.2.2.1 d.2.2.2.2.1.2.2.2.1 d.2.2.2.2.2.1 d.2.2.2.2.2.2.1 d.2.2.2.2.2.2.2.1 d.2.2.2.2.2.2.2.2.1
noncomputable def L57_15 (k : Nat) (g4 : Y0_3) (j : Nat) (l_3 : List Y0_0) (all2 : List Y0_2) (around2 : List Int) (p4 : Int) (p5 : Int) (p6 : Int) (p7 : Bool) (i : Int) (t15_2 : List Y0_2) (t16_2 : Int) (t17_2 : Int) : Option Y0_6 := iter (R := (Bool × Unit) × Unit) c57_L15 (b57_15 k g4) j ((), l_3, all2, around2, (p4, p5, p6, p7, ()), i, t15_2, t16_2, t17_2, ())
theorem L57_15_s (k : Nat) (g4 : Y0_3) (j : Nat) (l_3 : List Y0_0) (all2 : List Y0_2) (around2 : List Int) (p4 : Int) (p5 : Int) (p6 : Int) (p7 : Bool) (i : Int) (t15_2 : List Y0_2) (t16_2 : Int) (t17_2 : Int) : L57_15 k g4 (j + 1) l_3 all2 around2 p4 p5 p6 p7 i t15_2 t16_2 t17_2 = l57_15 k g4 (L57_15 k g4 j) l_3 all2 around2 p4 p5 p6 p7 i t15_2 t16_2 t17_2 := iter_succ _ _ _ _
noncomputable abbrev c57_L9 : Cut := ⟨[0, 3, 4, 6, 15, 16, 17, 27, 28, 29], [.cell Y0_10, .cell (.sl 111 Y0_4), .own 3 (.int .i64), .box 111 [.cell (.int .i64), .cell (.int .i64), .cell (.int .i64), .cell .bool], .cell (.sl 111 Y0_4), .cell (.int .i64), .cell (.int .i64), .cell (.sl 111 Y0_4), .cell (.int .i64), .cell (.int .i64)], [], 84⟩
noncomputable def l57_9 (k : Nat) (g4 : Y0_3) (g9 : (List Y0_0) → (List Y0_2) → (List Int) → Int → Int → Int → Bool → (List Y0_2) → Int → Int → (List Y0_2) → Int → Int → Option Y0_6) (l_2 : List Y0_0) (all1 : List Y0_2) (around1 : List Int) (p : Int) (p1 : Int) (p2 : Int) (p3 : Bool) (t15_1 : List Y0_2) (t16_1 : Int) (t17_1 : Int) (t27 : List Y0_2) (t28 : Int) (t29 : Int) : Option Y0_6 :=
 (bif decide (t29 < t28) then
  ix t27 t29 <|
  (S75 k (rd t27 t29 (0, 0, 0, false)) p2).bind fun q1 =>
  (bif q1.1.1 then
   (S76 k (p, p1, p2, p3) (rd t27 t29 (0, 0, 0, false))).bind fun q2 =>
   (bif !q2.1.1 then
    some ((false, ()), ())
   else
    (S77 k (p, p1, p2, p3) (rd t27 t29 (0, 0, 0, false))).bind fun q3 =>
    (bif !q3.1.1 then
     (S76 k (p, p1, p2, p3) (rd t27 t29 (0, 0, 0, false))).bind fun q4 =>
     (bif !q4.1.1 then
      (S76 k (rd t27 t29 (0, 0, 0, false)) (p, p1, p2, p3)).bind fun q5 =>
      (bif !q5.1.1 then
       some ((false, ()), ())
      else
       g9 l_2 all1 around1 p p1 p2 p3 t15_1 t16_1 t17_1 t27 t28 (IntKind.i64.wrap (t29 + 1)))
     else
      g9 l_2 all1 around1 p p1 p2 p3 t15_1 t16_1 t17_1 t27 t28 (IntKind.i64.wrap (t29 + 1)))
    else
     g9 l_2 all1 around1 p p1 p2 p3 t15_1 t16_1 t17_1 t27 t28 (IntKind.i64.wrap (t29 + 1))))
  else
   (S77 k (p, p1, p2, p3) (rd t27 t29 (0, 0, 0, false))).bind fun q6 =>
   (bif !q6.1.1 then
    (S76 k (p, p1, p2, p3) (rd t27 t29 (0, 0, 0, false))).bind fun q7 =>
    (bif !q7.1.1 then
     (S76 k (rd t27 t29 (0, 0, 0, false)) (p, p1, p2, p3)).bind fun q8 =>
     (bif !q8.1.1 then
      some ((false, ()), ())
     else
      g9 l_2 all1 around1 p p1 p2 p3 t15_1 t16_1 t17_1 t27 t28 (IntKind.i64.wrap (t29 + 1)))
    else
     g9 l_2 all1 around1 p p1 p2 p3 t15_1 t16_1 t17_1 t27 t28 (IntKind.i64.wrap (t29 + 1)))
   else
    g9 l_2 all1 around1 p p1 p2 p3 t15_1 t16_1 t17_1 t27 t28 (IntKind.i64.wrap (t29 + 1))))
 else
  L57_15 k g4 k l_2 all1 around1 p p1 p2 p3 p t15_1 t16_1 t17_1)
noncomputable def b57_9 (k : Nat) (g4 : Y0_3) (g : ((Unit) × (List Y0_0) × (List Y0_2) × (List Int) × (Int × Int × Int × Bool × Unit) × (List Y0_2) × Int × Int × (List Y0_2) × Int × Int × Unit) → Option Y0_6) (d : (Unit) × (List Y0_0) × (List Y0_2) × (List Int) × (Int × Int × Int × Bool × Unit) × (List Y0_2) × Int × Int × (List Y0_2) × Int × Int × Unit) : Option Y0_6 := l57_9 k g4 (fun l_2 all1 around1 p p1 p2 p3 t15_1 t16_1 t17_1 t27 t28 t29 => g ((), l_2, all1, around1, (p, p1, p2, p3, ()), t15_1, t16_1, t17_1, t27, t28, t29, ())) d.2.1 d.2.2.1 d.2.2.2.1 d.2.2.2.2.1.1 d.2.2.2.2.1.2.1 d.2.2.2.2.1.2.2.1 d.2.2.2.2.1.2.2.2.1 d.2.2.2.2.2.1 d.2.2.2.2.2.2.1 d.2.2.2.2.2.2.2.1 d.2.2.2.2.2.2.2.2.1 d.2.2.2.2.2.2.2.2.2.1 d.2.2.2.2.2.2.2.2.2.2.1
noncomputable def L57_9 (k : Nat) (g4 : Y0_3) (j : Nat) (l_2 : List Y0_0) (all1 : List Y0_2) (around1 : List Int) (p : Int) (p1 : Int) (p2 : Int) (p3 : Bool) (t15_1 : List Y0_2) (t16_1 : Int) (t17_1 : Int) (t27 : List Y0_2) (t28 : Int) (t29 : Int) : Option Y0_6 := iter (R := (Bool × Unit) × Unit) c57_L9 (b57_9 k g4) j ((), l_2, all1, around1, (p, p1, p2, p3, ()), t15_1, t16_1, t17_1, t27, t28, t29, ())
theorem L57_9_s (k : Nat) (g4 : Y0_3) (j : Nat) (l_2 : List Y0_0) (all1 : List Y0_2) (around1 : List Int) (p : Int) (p1 : Int) (p2 : Int) (p3 : Bool) (t15_1 : List Y0_2) (t16_1 : Int) (t17_1 : Int) (t27 : List Y0_2) (t28 : Int) (t29 : Int) : L57_9 k g4 (j + 1) l_2 all1 around1 p p1 p2 p3 t15_1 t16_1 t17_1 t27 t28 t29 = l57_9 k g4 (L57_9 k g4 j) l_2 all1 around1 p p1 p2 p3 t15_1 t16_1 t17_1 t27 t28 t29 := iter_succ _ _ _ _
noncomputable abbrev c57_L4 : Cut := ⟨[0, 3, 4, 15, 16, 17], [.cell Y0_10, .cell (.sl 111 Y0_4), .own 3 (.int .i64), .cell (.sl 111 Y0_4), .cell (.int .i64), .cell (.int .i64)], [], 84⟩
noncomputable def l57_4 (k : Nat) (g4 : Y0_3) (l_1 : List Y0_0) (all : List Y0_2) (around : List Int) (t15 : List Y0_2) (t16 : Int) (t17 : Int) : Option Y0_6 :=
 (bif decide (t17 < t16) then
  ix t15 t17 <|
  (bif decide ((rd t15 t17 (0, 0, 0, false)).2.1 ≥ (IntKind.i64.wrap ((l_1.length : Int) - 1))) then
   some ((false, ()), ())
  else
   L57_9 k g4 k l_1 all around (rd t15 t17 (0, 0, 0, false)).1 (rd t15 t17 (0, 0, 0, false)).2.1 (rd t15 t17 (0, 0, 0, false)).2.2.1 (rd t15 t17 (0, 0, 0, false)).2.2.2 t15 t16 t17 all (all.length : Int) 0)
 else
  (S59 k around).bind fun q9 =>
  some ((!q9.1.1, ()), ()))
noncomputable def b57_4 (k : Nat) (g : ((Unit) × (List Y0_0) × (List Y0_2) × (List Int) × (List Y0_2) × Int × Int × Unit) → Option Y0_6) (d : (Unit) × (List Y0_0) × (List Y0_2) × (List Int) × (List Y0_2) × Int × Int × Unit) : Option Y0_6 := l57_4 k (fun l_1 all around t15 t16 t17 => g ((), l_1, all, around, t15, t16, t17, ())) d.2.1 d.2.2.1 d.2.2.2.1 d.2.2.2.2.1 d.2.2.2.2.2.1 d.2.2.2.2.2.2.1
noncomputable def L57_4 (k : Nat) (j : Nat) (l_1 : List Y0_0) (all : List Y0_2) (around : List Int) (t15 : List Y0_2) (t16 : Int) (t17 : Int) : Option Y0_6 := iter (R := (Bool × Unit) × Unit) c57_L4 (b57_4 k) j ((), l_1, all, around, t15, t16, t17, ())
theorem L57_4_s (k : Nat) (j : Nat) (l_1 : List Y0_0) (all : List Y0_2) (around : List Int) (t15 : List Y0_2) (t16 : Int) (t17 : Int) : L57_4 k (j + 1) l_1 all around t15 t16 t17 = l57_4 k (L57_4 k j) l_1 all around t15 t16 t17 := iter_succ _ _ _ _
noncomputable def S57 (k : Nat) (l_ : List Y0_0) : Option Y0_6 :=
 (S74 k l_).bind fun q0 =>
 mk (l_.length : Int) (l_.length : Int) 8 <|
 L57_4 k k l_ q0.1.1 (List.replicate (l_.length : Int).toNat (0 : Int)) q0.1.1 (q0.1.1.length : Int) 0
noncomputable def E57 : Env := tab.env (lk [(59, F59), (74, F74), (75, F75), (76, F76), (77, F77)]) (hintL [])
theorem E57_ok : EnvOK Try.prog E57 := envOK_of tabOK _ _ (allFn_lk (l := [(59, F59), (74, F74), (75, F75), (76, F76), (77, F77)]) ⟨ok59, ok74, ok75, ok76, ok77, trivial⟩)
noncomputable def B57 (k : Nat) : Tbl (RD R57 × MD P57) := (.loop 4 c57_L4 (b57_4 k) (fun g => (fun (g4 : Y0_3) => (.loop 15 c57_L15 (b57_15 k g4) (fun g => .nil) (.loop 9 c57_L9 (b57_9 k g4) (fun g => .nil) .nil))) (fun l_1 all around t15 t16 t17 => g ((), l_1, all, around, t15, t16, t17, ()))) .nil)
noncomputable def F57 : Fn := ⟨P57, R57, fun k x => S57 k x.1⟩
theorem ok57 : FnOK Try.prog 57 F57 := evalF_ok (E := E57) (T := B57) E57_ok mix Try.func57 rfl (by kernel_rfl) (by kernel_rfl) (fun k => by kernel_rfl) (fun k x => by kernel_rfl)
end Go.Proofs.Ythmicjldfdadjaa.Ab
