import Derived.Test.YthmicjldfdadjaaAbL0
/- Contracts, printed by this session's own program gen.py. -/
set_option linter.unusedVariables false
set_option linter.unusedSimpArgs false
set_option maxRecDepth 100000
namespace Go.Proofs.Ythmicjldfdadjaa.Ab
open Go.RowKit Go.Proofs.YthmicjldfdadjaaW.PrintWords
abbrev Y1_0 : Type := Int × Int × Int × Int
abbrev Y1_1 : Ty := .sl 42 (.pair (.int .i64) (.pair (.int .i64) (.pair (.int .i64) (.int .i64))))
abbrev Y1_2 : Type := (List Y1_0) → (List (PN Bool 24)) → (List (Int × Int × Int × Bool)) → Int → Int → Option (((List (PN Bool 24)) × Unit) × Unit)
abbrev Y1_3 : Type := ((List Int) × Unit) × Unit
abbrev Y1_4 : Type := (Int × Unit) × Unit
abbrev Y1_5 : Type := List (PN Bool 24)
abbrev Y1_6 : Type := (List Y1_0) → (List Int) → (List Int) → (List ((PN Bool 24) × Int)) → Y1_5 → Y1_5 → Int → Int → Option (((List Int) × Bool × Unit) × Unit)
abbrev Y1_7 : Type := ((Int × Int × List (Int × Int)) × Bool × Unit) × Unit
abbrev Y1_8 : Type := (List Int) → (List Y1_0) → Int → Int → Option Y1_3
abbrev Y1_9 : Type := (Bool × Unit) × Unit
abbrev Y1_10 : Type := Int × Int × Int × Bool
abbrev Y1_11 : Type := (Y1_5 × Unit) × Unit
abbrev Y1_12 : Type := ((List Int) × Bool × Unit) × Unit
abbrev Y1_13 : Type := PN Bool 24
abbrev Y1_14 : Ty := arrT 24 .bool
abbrev Y1_15 : Type := (Int × Bool × Unit) × Unit
noncomputable abbrev P58 : List PT := [.val ⟨false, Y1_1, false⟩]
noncomputable abbrev R58 : List RT := [.val ⟨false, (.sl 92 Y1_14), true⟩]
noncomputable abbrev c58_L6 : Cut := ⟨[0, 3, 4, 5, 11, 12, 13, 19, 20], [.cell Y1_1, .own 92 Y1_14, .cell (.int .i64), .box 111 [.cell (.int .i64), .cell (.int .i64), .cell (.int .i64), .cell .bool], .own 111 (.pair (.int .i64) (.pair (.int .i64) (.pair (.int .i64) .bool))), .cell (.int .i64), .cell (.int .i64), .cell (.int .i64), .cell (.int .i64)], [], 38⟩
noncomputable def l58_6 (k : Nat) (g3 : Y1_2) (g6 : (List Y1_0) → Y1_5 → Int → Int → Int → Int → Bool → (List Y1_10) → Int → Int → Int → Int → Option Y1_11) (l_2 : List Y1_0) (out1 : List Y1_13) (n : Int) (p : Int) (p1 : Int) (p2 : Int) (p3 : Bool) (t11_1 : List Y1_10) (t12_1 : Int) (t13_1 : Int) (t19 : Int) (t20 : Int) : Option Y1_11 :=
 (bif decide (t20 < t19) then
  (bif decide (n < 24) then
   (S75 k (p, p1, p2, p3) t20).bind fun q1 =>
   (bif q1.1.1 then
    ix out1 t20 <|
    ax 24 n <|
    g6 l_2 (upd out1 t20 (aset (α := Bool) 24 (rd out1 t20 (prep (α := Bool) 24 false)) n true)) n p p1 p2 p3 t11_1 t12_1 t13_1 t19 (IntKind.i64.wrap (t20 + 1))
   else
    g6 l_2 out1 n p p1 p2 p3 t11_1 t12_1 t13_1 t19 (IntKind.i64.wrap (t20 + 1)))
  else
   g6 l_2 out1 n p p1 p2 p3 t11_1 t12_1 t13_1 t19 (IntKind.i64.wrap (t20 + 1)))
 else
  g3 l_2 out1 t11_1 t12_1 (IntKind.i64.wrap (t13_1 + 1)))
noncomputable def b58_6 (k : Nat) (g3 : Y1_2) (g : ((Unit) × (List Y1_0) × Y1_5 × Int × (Int × Int × Int × Bool × Unit) × (List Y1_10) × Int × Int × Int × Int × Unit) → Option Y1_11) (d : (Unit) × (List Y1_0) × Y1_5 × Int × (Int × Int × Int × Bool × Unit) × (List Y1_10) × Int × Int × Int × Int × Unit) : Option Y1_11 := l58_6 k g3 (fun l_2 out1 n p p1 p2 p3 t11_1 t12_1 t13_1 t19 t20 => g ((), l_2, out1, n, (p, p1, p2, p3, ()), t11_1, t12_1, t13_1, t19, t20, ())) d.2.1 d.2.2.1 d.2.2.2.1 d.2.2.2.2.1.1 d.2.2.2.2.1.2.1 d.2.2.2.2.1.2.2.1 d.2.2.2.2.1.2.2.2.1 d.2.2.2.2.2.1 d.2.2.2.2.2.2.1 d.2.2.2.2.2.2.2.1 d.2.2.2.2.2.2.2.2.1 d.2.2.2.2.2.2.2.2.2.1
noncomputable def L58_6 (k : Nat) (g3 : Y1_2) (j : Nat) (l_2 : List Y1_0) (out1 : List Y1_13) (n : Int) (p : Int) (p1 : Int) (p2 : Int) (p3 : Bool) (t11_1 : List Y1_10) (t12_1 : Int) (t13_1 : Int) (t19 : Int) (t20 : Int) : Option Y1_11 := iter (R := (Y1_5 × Unit) × Unit) c58_L6 (b58_6 k g3) j ((), l_2, out1, n, (p, p1, p2, p3, ()), t11_1, t12_1, t13_1, t19, t20, ())
theorem L58_6_s (k : Nat) (g3 : Y1_2) (j : Nat) (l_2 : List Y1_0) (out1 : List Y1_13) (n : Int) (p : Int) (p1 : Int) (p2 : Int) (p3 : Bool) (t11_1 : List Y1_10) (t12_1 : Int) (t13_1 : Int) (t19 : Int) (t20 : Int) : L58_6 k g3 (j + 1) l_2 out1 n p p1 p2 p3 t11_1 t12_1 t13_1 t19 t20 = l58_6 k g3 (L58_6 k g3 j) l_2 out1 n p p1 p2 p3 t11_1 t12_1 t13_1 t19 t20 := iter_succ _ _ _ _
noncomputable abbrev c58_L3 : Cut := ⟨[0, 3, 11, 12, 13], [.cell Y1_1, .own 92 Y1_14, .own 111 (.pair (.int .i64) (.pair (.int .i64) (.pair (.int .i64) .bool))), .cell (.int .i64), .cell (.int .i64)], [], 38⟩
noncomputable def l58_3 (k : Nat) (g3 : Y1_2) (l_1 : List Y1_0) (out : List Y1_13) (t11 : List Y1_10) (t12 : Int) (t13 : Int) : Option Y1_11 :=
 (bif decide (t13 < t12) then
  ix t11 t13 <|
  L58_6 k g3 k l_1 out t13 (rd t11 t13 (0, 0, 0, false)).1 (rd t11 t13 (0, 0, 0, false)).2.1 (rd t11 t13 (0, 0, 0, false)).2.2.1 (rd t11 t13 (0, 0, 0, false)).2.2.2 t11 t12 t13 (l_1.length : Int) 0
 else
  some ((out, ()), ()))
noncomputable def b58_3 (k : Nat) (g : ((Unit) × (List Y1_0) × Y1_5 × (List Y1_10) × Int × Int × Unit) → Option Y1_11) (d : (Unit) × (List Y1_0) × Y1_5 × (List Y1_10) × Int × Int × Unit) : Option Y1_11 := l58_3 k (fun l_1 out t11 t12 t13 => g ((), l_1, out, t11, t12, t13, ())) d.2.1 d.2.2.1 d.2.2.2.1 d.2.2.2.2.1 d.2.2.2.2.2.1
noncomputable def L58_3 (k : Nat) (j : Nat) (l_1 : List Y1_0) (out : List Y1_13) (t11 : List Y1_10) (t12 : Int) (t13 : Int) : Option Y1_11 := iter (R := (Y1_5 × Unit) × Unit) c58_L3 (b58_3 k) j ((), l_1, out, t11, t12, t13, ())
theorem L58_3_s (k : Nat) (j : Nat) (l_1 : List Y1_0) (out : List Y1_13) (t11 : List Y1_10) (t12 : Int) (t13 : Int) : L58_3 k (j + 1) l_1 out t11 t12 t13 = l58_3 k (L58_3 k j) l_1 out t11 t12 t13 := iter_succ _ _ _ _
noncomputable def S58 (k : Nat) (l_ : List Y1_0) : Option Y1_11 :=
 mk (l_.length : Int) (l_.length : Int) 24 <|
 (S74 k l_).bind fun q0 =>
 L58_3 k k l_ (List.replicate (l_.length : Int).toNat (prep (α := Bool) 24 false : PN Bool 24)) q0.1.1 (q0.1.1.length : Int) 0
noncomputable def E58 : Env := tab.env (lk [(74, F74), (75, F75)]) (hintL [])
theorem E58_ok : EnvOK Try.prog E58 := envOK_of tabOK _ _ (allFn_lk (l := [(74, F74), (75, F75)]) ⟨ok74, ok75, trivial⟩)
noncomputable def B58 (k : Nat) : Tbl (RD R58 × MD P58) := (.loop 3 c58_L3 (b58_3 k) (fun g => (fun (g3 : Y1_2) => (.loop 6 c58_L6 (b58_6 k g3) (fun g => .nil) .nil)) (fun l_1 out t11 t12 t13 => g ((), l_1, out, t11, t12, t13, ()))) .nil)
noncomputable def F58 : Fn := ⟨P58, R58, fun k x => S58 k x.1⟩
theorem ok58 : FnOK Try.prog 58 F58 := evalF_ok (E := E58) (T := B58) E58_ok mix Try.func58 rfl (by kernel_rfl) (by kernel_rfl) (fun k => by kernel_rfl) (fun k x => by kernel_rfl)
noncomputable abbrev P67 : List PT := [.val ⟨false, (.int .i64), false⟩, .pv (.ref Y1_1), .pv (.ref (.int .i64))]
noncomputable abbrev R67 : List RT := [.val ⟨false, .bool, true⟩]
noncomputable def S67 (k : Nat) (k_ : Int) (x1 : List Y1_0) (x2 : Int) : Option Y1_9 :=
 ix x1 k_ <|
 ix x1 x2 <|
 some (((rd x1 k_ (0, 0, 0, 0)).2.1 == (rd x1 x2 (0, 0, 0, 0)).2.1, ()), ())
noncomputable def E67 : Env := tab.env (lk []) (hintL [])
theorem E67_ok : EnvOK Try.prog E67 := envOK_of tabOK _ _ (fun f F h => by cases h)
noncomputable def B67 (k : Nat) : Tbl (RD R67 × MD P67) := .nil
noncomputable def F67 : Fn := ⟨P67, R67, fun k x => S67 k x.1 x.2.1 x.2.2.1⟩
theorem ok67 : FnOK Try.prog 67 F67 := evalF_ok (E := E67) (T := B67) E67_ok mix Try.func67 rfl (by kernel_rfl) (by kernel_rfl) (fun k => by kernel_rfl) (fun k x => by kernel_rfl)
noncomputable abbrev P79a : List PT := [.val ⟨false, (.sl 3 (.int .i64)), false⟩, .pv (.clo 67 [.ref Y1_1, .ref (.int .i64)])]
noncomputable abbrev R79a : List RT := [.val ⟨false, (.int .i64), true⟩]
noncomputable abbrev c79a_L2 : Cut := ⟨[0, 1, 7, 8], [.cell (.sl 3 (.int .i64)), .clo 67 [.ref Y1_1, .ref (.int .i64)], .cell (.int .i64), .cell (.int .i64)], [], 19⟩
noncomputable def l79a_2 (k : Nat) (g2 : (List Int) → (List Y1_0) → Int → Int → Int → Option Y1_4) (s1 : List Int) (f2 : List Y1_0) (f3 : Int) (t7 : Int) (t8 : Int) : Option Y1_4 :=
 (bif decide (t8 < t7) then
  ix s1 t8 <|
  (S67 k (rd s1 t8 0) f2 f3).bind fun q0 =>
  (bif q0.1.1 then
   some ((t8, ()), ())
  else
   g2 s1 f2 f3 t7 (IntKind.i64.wrap (t8 + 1)))
 else
  some (((-1), ()), ()))
noncomputable def b79a_2 (k : Nat) (g : ((Unit) × (List Int) × ((List Y1_0) × Int × Unit) × Int × Int × Unit) → Option Y1_4) (d : (Unit) × (List Int) × ((List Y1_0) × Int × Unit) × Int × Int × Unit) : Option Y1_4 := l79a_2 k (fun s1 f2 f3 t7 t8 => g ((), s1, (f2, f3, ()), t7, t8, ())) d.2.1 d.2.2.1.1 d.2.2.1.2.1 d.2.2.2.1 d.2.2.2.2.1
noncomputable def L79a_2 (k : Nat) (j : Nat) (s1 : List Int) (f2 : List Y1_0) (f3 : Int) (t7 : Int) (t8 : Int) : Option Y1_4 := iter (R := (Int × Unit) × Unit) c79a_L2 (b79a_2 k) j ((), s1, (f2, f3, ()), t7, t8, ())
theorem L79a_2_s (k : Nat) (j : Nat) (s1 : List Int) (f2 : List Y1_0) (f3 : Int) (t7 : Int) (t8 : Int) : L79a_2 k (j + 1) s1 f2 f3 t7 t8 = l79a_2 k (L79a_2 k j) s1 f2 f3 t7 t8 := iter_succ _ _ _ _
noncomputable def S79a (k : Nat) (s : List Int) (f : List Y1_0) (f1 : Int) : Option Y1_4 :=
 L79a_2 k k s f f1 (s.length : Int) 0
noncomputable def E79a : Env := tab.env (lk [(67, F67)]) (hintL [])
theorem E79a_ok : EnvOK Try.prog E79a := envOK_of tabOK _ _ (allFn_lk (l := [(67, F67)]) ⟨ok67, trivial⟩)
noncomputable def B79a (k : Nat) : Tbl (RD R79a × MD P79a) := (.loop 2 c79a_L2 (b79a_2 k) (fun g => .nil) .nil)
noncomputable def F79a : Fn := ⟨P79a, R79a, fun k x => S79a k x.1 x.2.1.1 x.2.1.2.1⟩
theorem ok79a : FnOK Try.prog 79 F79a := evalF_ok (E := E79a) (T := B79a) E79a_ok mix Try.func79 rfl (by kernel_rfl) (by kernel_rfl) (fun k => by kernel_rfl) (fun k x => by kernel_rfl)
noncomputable abbrev P59a : List PT := [.val ⟨false, (.sl 3 (.int .i64)), false⟩, .pv (.clo 67 [.ref Y1_1, .ref (.int .i64)])]
noncomputable abbrev R59a : List RT := [.val ⟨false, .bool, true⟩]
noncomputable def S59a (k : Nat) (s : List Int) (f : List Y1_0) (f1 : Int) : Option Y1_9 :=
 (S79a k s f f1).bind fun q0 =>
 some ((decide (q0.1.1 ≥ 0), ()), ())
noncomputable def E59a : Env := tab.env (lk [(79, F79a)]) (hintL [])
theorem E59a_ok : EnvOK Try.prog E59a := envOK_of tabOK _ _ (allFn_lk (l := [(79, F79a)]) ⟨ok79a, trivial⟩)
noncomputable def B59a (k : Nat) : Tbl (RD R59a × MD P59a) := .nil
noncomputable def F59a : Fn := ⟨P59a, R59a, fun k x => S59a k x.1 x.2.1.1 x.2.1.2.1⟩
theorem ok59a : FnOK Try.prog 59 F59a := evalF_ok (E := E59a) (T := B59a) E59a_ok mix Try.func59 rfl (by kernel_rfl) (by kernel_rfl) (fun k => by kernel_rfl) (fun k x => by kernel_rfl)
noncomputable abbrev P47 : List PT := [.val ⟨false, Y1_1, false⟩]
noncomputable abbrev R47 : List RT := [.val ⟨false, (.sl 3 (.int .i64)), true⟩, .val ⟨false, .bool, true⟩]
noncomputable abbrev c47_J8 : Cut := ⟨[1, 4, 5, 6, 7, 8, 9, 20, 21, 22], [.box 22 [.cell Y1_1], .own 3 (.int .i64), .own 3 (.int .i64), .mp 101 true Y1_14 false (.int .i64), .cell (.sl 92 Y1_14), .box 3 [.cell (.int .i64)], .box 92 [.cell .bool, .cell .bool, .cell .bool, .cell .bool, .cell .bool, .cell .bool, .cell .bool, .cell .bool, .cell .bool, .cell .bool, .cell .bool, .cell .bool, .cell .bool, .cell .bool, .cell .bool, .cell .bool, .cell .bool, .cell .bool, .cell .bool, .cell .bool, .cell .bool, .cell .bool, .cell .bool, .cell .bool], .cell (.sl 92 Y1_14), .cell (.int .i64), .cell (.int .i64)], [], 110⟩
noncomputable def j47_8 (k : Nat) (g3 : Y1_6) (l_2 : List Y1_0) (out1 : List Int) (open_1 : List Int) (same1 : List (Y1_13 × Int)) (all1 : List Y1_13) (i : Int) (x : Bool) (x1 : Bool) (x2 : Bool) (x3 : Bool) (x4 : Bool) (x5 : Bool) (x6 : Bool) (x7 : Bool) (x8 : Bool) (x9 : Bool) (x10 : Bool) (x11 : Bool) (x12 : Bool) (x13 : Bool) (x14 : Bool) (x15 : Bool) (x16 : Bool) (x17 : Bool) (x18 : Bool) (x19 : Bool) (x20 : Bool) (x21 : Bool) (x22 : Bool) (x23 : Bool) (t20_1 : List Y1_13) (t21_1 : Int) (t22_1 : Int) : Option Y1_12 :=
 ix l_2 i <|
 (bif (rd l_2 i (0, 0, 0, 0)).1 == 9 then
  (bif decide ((open_1.length : Int) ≥ 2) then
   some (([], false, ()), ())
  else
   (S59a k open_1 l_2 i).bind fun q1 =>
   (bif q1.1.1 then
    some (([], false, ()), ())
   else
    ap open_1 ([i] : List Int) 8 fun r2 =>
    g3 l_2 out1 r2 same1 all1 t20_1 t21_1 (IntKind.i64.wrap (t22_1 + 1))))
 else
  (bif (rd l_2 i (0, 0, 0, 0)).1 == 10 then
   (bif decide ((IntKind.i64.wrap ((open_1.length : Int) - 1)) < 0) then
    some (([], false, ()), ())
   else
    ix open_1 (IntKind.i64.wrap ((open_1.length : Int) - 1)) <|
    ix l_2 (rd open_1 (IntKind.i64.wrap ((open_1.length : Int) - 1)) 0) <|
    ix l_2 i <|
    (bif (rd l_2 (rd open_1 (IntKind.i64.wrap ((open_1.length : Int) - 1)) 0) (0, 0, 0, 0)).2.1 != (rd l_2 i (0, 0, 0, 0)).2.1 then
     some (([], false, ()), ())
    else
     ix open_1 (IntKind.i64.wrap ((open_1.length : Int) - 1)) <|
     ix all1 (rd open_1 (IntKind.i64.wrap ((open_1.length : Int) - 1)) 0) <|
     (bif (mget Y1_14 (.int .i64) (rd all1 (rd open_1 (IntKind.i64.wrap ((open_1.length : Int) - 1)) 0) (prep (α := Bool) 24 false)) same1 0) != (mget Y1_14 (.int .i64) (x, x1, x2, x3, x4, x5, x6, x7, x8, x9, x10, x11, x12, x13, x14, x15, x16, x17, x18, x19, x20, x21, x22, x23) same1 0) then
      some (([], false, ()), ())
     else
      ix open_1 (IntKind.i64.wrap ((open_1.length : Int) - 1)) <|
      ix out1 (rd open_1 (IntKind.i64.wrap ((open_1.length : Int) - 1)) 0) <|
      sx open_1 0 (IntKind.i64.wrap ((open_1.length : Int) - 1)) <|
      g3 l_2 (upd out1 (rd open_1 (IntKind.i64.wrap ((open_1.length : Int) - 1)) 0) i) (open_1.take (IntKind.i64.wrap ((open_1.length : Int) - 1)).toNat) same1 all1 t20_1 t21_1 (IntKind.i64.wrap (t22_1 + 1)))))
  else
   g3 l_2 out1 open_1 same1 all1 t20_1 t21_1 (IntKind.i64.wrap (t22_1 + 1))))
noncomputable abbrev c47_L3 : Cut := ⟨[1, 4, 5, 6, 7, 20, 21, 22], [.box 22 [.cell Y1_1], .own 3 (.int .i64), .own 3 (.int .i64), .mp 101 true Y1_14 false (.int .i64), .cell (.sl 92 Y1_14), .cell (.sl 92 Y1_14), .cell (.int .i64), .cell (.int .i64)], [], 110⟩
noncomputable def l47_3 (k : Nat) (g3 : Y1_6) (l_1 : List Y1_0) (out : List Int) (open_ : List Int) (same : List (Y1_13 × Int)) (all : List Y1_13) (t20 : List Y1_13) (t21 : Int) (t22 : Int) : Option Y1_12 :=
 (bif decide (t22 < t21) then
  ix t20 t22 <|
  (bif !(mhas Y1_14 (.int .i64) (rd t20 t22 (prep (α := Bool) 24 false)) same) then
   j47_8 k g3 l_1 out open_ (updD Y1_14 (.int .i64) (rd t20 t22 (prep (α := Bool) 24 false)) t22 same) all t22 (rd t20 t22 (prep (α := Bool) 24 false)).1 (rd t20 t22 (prep (α := Bool) 24 false)).2.1 (rd t20 t22 (prep (α := Bool) 24 false)).2.2.1 (rd t20 t22 (prep (α := Bool) 24 false)).2.2.2.1 (rd t20 t22 (prep (α := Bool) 24 false)).2.2.2.2.1 (rd t20 t22 (prep (α := Bool) 24 false)).2.2.2.2.2.1 (rd t20 t22 (prep (α := Bool) 24 false)).2.2.2.2.2.2.1 (rd t20 t22 (prep (α := Bool) 24 false)).2.2.2.2.2.2.2.1 (rd t20 t22 (prep (α := Bool) 24 false)).2.2.2.2.2.2.2.2.1 (rd t20 t22 (prep (α := Bool) 24 false)).2.2.2.2.2.2.2.2.2.1 (rd t20 t22 (prep (α := Bool) 24 false)).2.2.2.2.2.2.2.2.2.2.1 (rd t20 t22 (prep (α := Bool) 24 false)).2.2.2.2.2.2.2.2.2.2.2.1 (rd t20 t22 (prep (α := Bool) 24 false)).2.2.2.2.2.2.2.2.2.2.2.2.1 (rd t20 t22 (prep (α := Bool) 24 false)).2.2.2.2.2.2.2.2.2.2.2.2.2.1 (rd t20 t22 (prep (α := Bool) 24 false)).2.2.2.2.2.2.2.2.2.2.2.2.2.2.1 (rd t20 t22 (prep (α := Bool) 24 false)).2.2.2.2.2.2.2.2.2.2.2.2.2.2.2.1 (rd t20 t22 (prep (α := Bool) 24 false)).2.2.2.2.2.2.2.2.2.2.2.2.2.2.2.2.1 (rd t20 t22 (prep (α := Bool) 24 false)).2.2.2.2.2.2.2.2.2.2.2.2.2.2.2.2.2.1 (rd t20 t22 (prep (α := Bool) 24 false)).2.2.2.2.2.2.2.2.2.2.2.2.2.2.2.2.2.2.1 (rd t20 t22 (prep (α := Bool) 24 false)).2.2.2.2.2.2.2.2.2.2.2.2.2.2.2.2.2.2.2.1 (rd t20 t22 (prep (α := Bool) 24 false)).2.2.2.2.2.2.2.2.2.2.2.2.2.2.2.2.2.2.2.2.1 (rd t20 t22 (prep (α := Bool) 24 false)).2.2.2.2.2.2.2.2.2.2.2.2.2.2.2.2.2.2.2.2.2.1 (rd t20 t22 (prep (α := Bool) 24 false)).2.2.2.2.2.2.2.2.2.2.2.2.2.2.2.2.2.2.2.2.2.2.1 (rd t20 t22 (prep (α := Bool) 24 false)).2.2.2.2.2.2.2.2.2.2.2.2.2.2.2.2.2.2.2.2.2.2.2 t20 t21 t22
  else
   j47_8 k g3 l_1 out open_ same all t22 (rd t20 t22 (prep (α := Bool) 24 false)).1 (rd t20 t22 (prep (α := Bool) 24 false)).2.1 (rd t20 t22 (prep (α := Bool) 24 false)).2.2.1 (rd t20 t22 (prep (α := Bool) 24 false)).2.2.2.1 (rd t20 t22 (prep (α := Bool) 24 false)).2.2.2.2.1 (rd t20 t22 (prep (α := Bool) 24 false)).2.2.2.2.2.1 (rd t20 t22 (prep (α := Bool) 24 false)).2.2.2.2.2.2.1 (rd t20 t22 (prep (α := Bool) 24 false)).2.2.2.2.2.2.2.1 (rd t20 t22 (prep (α := Bool) 24 false)).2.2.2.2.2.2.2.2.1 (rd t20 t22 (prep (α := Bool) 24 false)).2.2.2.2.2.2.2.2.2.1 (rd t20 t22 (prep (α := Bool) 24 false)).2.2.2.2.2.2.2.2.2.2.1 (rd t20 t22 (prep (α := Bool) 24 false)).2.2.2.2.2.2.2.2.2.2.2.1 (rd t20 t22 (prep (α := Bool) 24 false)).2.2.2.2.2.2.2.2.2.2.2.2.1 (rd t20 t22 (prep (α := Bool) 24 false)).2.2.2.2.2.2.2.2.2.2.2.2.2.1 (rd t20 t22 (prep (α := Bool) 24 false)).2.2.2.2.2.2.2.2.2.2.2.2.2.2.1 (rd t20 t22 (prep (α := Bool) 24 false)).2.2.2.2.2.2.2.2.2.2.2.2.2.2.2.1 (rd t20 t22 (prep (α := Bool) 24 false)).2.2.2.2.2.2.2.2.2.2.2.2.2.2.2.2.1 (rd t20 t22 (prep (α := Bool) 24 false)).2.2.2.2.2.2.2.2.2.2.2.2.2.2.2.2.2.1 (rd t20 t22 (prep (α := Bool) 24 false)).2.2.2.2.2.2.2.2.2.2.2.2.2.2.2.2.2.2.1 (rd t20 t22 (prep (α := Bool) 24 false)).2.2.2.2.2.2.2.2.2.2.2.2.2.2.2.2.2.2.2.1 (rd t20 t22 (prep (α := Bool) 24 false)).2.2.2.2.2.2.2.2.2.2.2.2.2.2.2.2.2.2.2.2.1 (rd t20 t22 (prep (α := Bool) 24 false)).2.2.2.2.2.2.2.2.2.2.2.2.2.2.2.2.2.2.2.2.2.1 (rd t20 t22 (prep (α := Bool) 24 false)).2.2.2.2.2.2.2.2.2.2.2.2.2.2.2.2.2.2.2.2.2.2.1 (rd t20 t22 (prep (α := Bool) 24 false)).2.2.2.2.2.2.2.2.2.2.2.2.2.2.2.2.2.2.2.2.2.2.2 t20 t21 t22)
 else
  (bif decide ((open_.length : Int) > 0) then
   some (([], false, ()), ())
  else
   some ((out, true, ()), ())))
noncomputable def b47_3 (k : Nat) (g : ((Unit) × ((List Y1_0) × Unit) × (List Int) × (List Int) × (List (Y1_13 × Int)) × Y1_5 × Y1_5 × Int × Int × Unit) → Option Y1_12) (d : (Unit) × ((List Y1_0) × Unit) × (List Int) × (List Int) × (List (Y1_13 × Int)) × Y1_5 × Y1_5 × Int × Int × Unit) : Option Y1_12 := l47_3 k (fun l_1 out open_ same all t20 t21 t22 => g ((), (l_1, ()), out, open_, same, all, t20, t21, t22, ())) d.2.1.1 d.2.2.1 d.2.2.2.1 d.2.2.2.2.1 d.2.2.2.2.2.1 d.2.2.2.2.2.2.1 d.2.2.2.2.2.2.2.1 d.2.2.2.2.2.2.2.2.1
noncomputable def L47_3 (k : Nat) (j : Nat) (l_1 : List Y1_0) (out : List Int) (open_ : List Int) (same : List (Y1_13 × Int)) (all : List Y1_13) (t20 : List Y1_13) (t21 : Int) (t22 : Int) : Option Y1_12 := iter (R := ((List Int) × Bool × Unit) × Unit) c47_L3 (b47_3 k) j ((), (l_1, ()), out, open_, same, all, t20, t21, t22, ())
theorem L47_3_s (k : Nat) (j : Nat) (l_1 : List Y1_0) (out : List Int) (open_ : List Int) (same : List (Y1_13 × Int)) (all : List Y1_13) (t20 : List Y1_13) (t21 : Int) (t22 : Int) : L47_3 k (j + 1) l_1 out open_ same all t20 t21 t22 = l47_3 k (L47_3 k j) l_1 out open_ same all t20 t21 t22 := iter_succ _ _ _ _
noncomputable def S47 (k : Nat) (l_ : List Y1_0) : Option Y1_12 :=
 mk (l_.length : Int) (l_.length : Int) 8 <|
 (S58 k l_).bind fun q0 =>
 L47_3 k k l_ (List.replicate (l_.length : Int).toNat (0 : Int)) ([] : List Int) ([] : List (Y1_13 × Int)) q0.1.1 q0.1.1 (q0.1.1.length : Int) 0
noncomputable def E47 : Env := tab.env (lk [(58, F58), (59, F59a)]) (hintL [(104, 1)])
theorem E47_ok : EnvOK Try.prog E47 := envOK_of tabOK _ _ (allFn_lk (l := [(58, F58), (59, F59a)]) ⟨ok58, ok59a, trivial⟩)
noncomputable def B47 (k : Nat) : Tbl (RD R47 × MD P47) := (.loop 3 c47_L3 (b47_3 k) (fun g => (fun (g3 : Y1_6) => (.join 8 c47_J8 (fun d => j47_8 k g3 d.2.1.1 d.2.2.1 d.2.2.2.1 d.2.2.2.2.1 d.2.2.2.2.2.1 d.2.2.2.2.2.2.1.1 d.2.2.2.2.2.2.2.1.1 d.2.2.2.2.2.2.2.1.2.1 d.2.2.2.2.2.2.2.1.2.2.1 d.2.2.2.2.2.2.2.1.2.2.2.1 d.2.2.2.2.2.2.2.1.2.2.2.2.1 d.2.2.2.2.2.2.2.1.2.2.2.2.2.1 d.2.2.2.2.2.2.2.1.2.2.2.2.2.2.1 d.2.2.2.2.2.2.2.1.2.2.2.2.2.2.2.1 d.2.2.2.2.2.2.2.1.2.2.2.2.2.2.2.2.1 d.2.2.2.2.2.2.2.1.2.2.2.2.2.2.2.2.2.1 d.2.2.2.2.2.2.2.1.2.2.2.2.2.2.2.2.2.2.1 d.2.2.2.2.2.2.2.1.2.2.2.2.2.2.2.2.2.2.2.1 d.2.2.2.2.2.2.2.1.2.2.2.2.2.2.2.2.2.2.2.2.1 d.2.2.2.2.2.2.2.1.2.2.2.2.2.2.2.2.2.2.2.2.2.1 d.2.2.2.2.2.2.2.1.2.2.2.2.2.2.2.2.2.2.2.2.2.2.1 d.2.2.2.2.2.2.2.1.2.2.2.2.2.2.2.2.2.2.2.2.2.2.2.1 d.2.2.2.2.2.2.2.1.2.2.2.2.2.2.2.2.2.2.2.2.2.2.2.2.1 d.2.2.2.2.2.2.2.1.2.2.2.2.2.2.2.2.2.2.2.2.2.2.2.2.2.1 d.2.2.2.2.2.2.2.1.2.2.2.2.2.2.2.2.2.2.2.2.2.2.2.2.2.2.1 d.2.2.2.2.2.2.2.1.2.2.2.2.2.2.2.2.2.2.2.2.2.2.2.2.2.2.2.1 d.2.2.2.2.2.2.2.1.2.2.2.2.2.2.2.2.2.2.2.2.2.2.2.2.2.2.2.2.1 d.2.2.2.2.2.2.2.1.2.2.2.2.2.2.2.2.2.2.2.2.2.2.2.2.2.2.2.2.2.1 d.2.2.2.2.2.2.2.1.2.2.2.2.2.2.2.2.2.2.2.2.2.2.2.2.2.2.2.2.2.2.1 d.2.2.2.2.2.2.2.1.2.2.2.2.2.2.2.2.2.2.2.2.2.2.2.2.2.2.2.2.2.2.2.1 d.2.2.2.2.2.2.2.2.1 d.2.2.2.2.2.2.2.2.2.1 d.2.2.2.2.2.2.2.2.2.2.1) .nil)) (fun l_1 out open_ same all t20 t21 t22 => g ((), (l_1, ()), out, open_, same, all, t20, t21, t22, ()))) .nil)
noncomputable def F47 : Fn := ⟨P47, R47, fun k x => S47 k x.1⟩
theorem ok47 : FnOK Try.prog 47 F47 := evalF_ok (E := E47) (T := B47) E47_ok mix Try.func47 rfl (by kernel_rfl) (by kernel_rfl) (fun k => by kernel_rfl) (fun k x => by kernel_rfl)
noncomputable abbrev P60 : List PT := [.val ⟨false, (.int .i64), false⟩, .pv (.ref (.int .i64))]
noncomputable abbrev R60 : List RT := [.val ⟨false, .bool, true⟩]
noncomputable def S60 (k : Nat) (end_ : Int) (x1 : Int) : Option Y1_9 :=
 some ((decide (end_ > x1), ()), ())
noncomputable def E60 : Env := tab.env (lk []) (hintL [])
theorem E60_ok : EnvOK Try.prog E60 := envOK_of tabOK _ _ (fun f F h => by cases h)
noncomputable def B60 (k : Nat) : Tbl (RD R60 × MD P60) := .nil
noncomputable def F60 : Fn := ⟨P60, R60, fun k x => S60 k x.1 x.2.1⟩
theorem ok60 : FnOK Try.prog 60 F60 := evalF_ok (E := E60) (T := B60) E60_ok mix Try.func60 rfl (by kernel_rfl) (by kernel_rfl) (fun k => by kernel_rfl) (fun k x => by kernel_rfl)
noncomputable abbrev P79b : List PT := [.val ⟨false, (.sl 3 (.int .i64)), false⟩, .pv (.clo 60 [.ref (.int .i64)])]
noncomputable abbrev R79b : List RT := [.val ⟨false, (.int .i64), true⟩]
noncomputable abbrev c79b_L2 : Cut := ⟨[0, 1, 7, 8], [.cell (.sl 3 (.int .i64)), .clo 60 [.ref (.int .i64)], .cell (.int .i64), .cell (.int .i64)], [], 19⟩
noncomputable def l79b_2 (k : Nat) (g2 : (List Int) → Int → Int → Int → Option Y1_4) (s1 : List Int) (f1 : Int) (t7 : Int) (t8 : Int) : Option Y1_4 :=
 (bif decide (t8 < t7) then
  ix s1 t8 <|
  (S60 k (rd s1 t8 0) f1).bind fun q0 =>
  (bif q0.1.1 then
   some ((t8, ()), ())
  else
   g2 s1 f1 t7 (IntKind.i64.wrap (t8 + 1)))
 else
  some (((-1), ()), ()))
noncomputable def b79b_2 (k : Nat) (g : ((Unit) × (List Int) × (Int × Unit) × Int × Int × Unit) → Option Y1_4) (d : (Unit) × (List Int) × (Int × Unit) × Int × Int × Unit) : Option Y1_4 := l79b_2 k (fun s1 f1 t7 t8 => g ((), s1, (f1, ()), t7, t8, ())) d.2.1 d.2.2.1.1 d.2.2.2.1 d.2.2.2.2.1
noncomputable def L79b_2 (k : Nat) (j : Nat) (s1 : List Int) (f1 : Int) (t7 : Int) (t8 : Int) : Option Y1_4 := iter (R := (Int × Unit) × Unit) c79b_L2 (b79b_2 k) j ((), s1, (f1, ()), t7, t8, ())
theorem L79b_2_s (k : Nat) (j : Nat) (s1 : List Int) (f1 : Int) (t7 : Int) (t8 : Int) : L79b_2 k (j + 1) s1 f1 t7 t8 = l79b_2 k (L79b_2 k j) s1 f1 t7 t8 := iter_succ _ _ _ _
noncomputable def S79b (k : Nat) (s : List Int) (f : Int) : Option Y1_4 :=
 L79b_2 k k s f (s.length : Int) 0
noncomputable def E79b : Env := tab.env (lk [(60, F60)]) (hintL [])
theorem E79b_ok : EnvOK Try.prog E79b := envOK_of tabOK _ _ (allFn_lk (l := [(60, F60)]) ⟨ok60, trivial⟩)
noncomputable def B79b (k : Nat) : Tbl (RD R79b × MD P79b) := (.loop 2 c79b_L2 (b79b_2 k) (fun g => .nil) .nil)
noncomputable def F79b : Fn := ⟨P79b, R79b, fun k x => S79b k x.1 x.2.1.1⟩
theorem ok79b : FnOK Try.prog 79 F79b := evalF_ok (E := E79b) (T := B79b) E79b_ok mix Try.func79 rfl (by kernel_rfl) (by kernel_rfl) (fun k => by kernel_rfl) (fun k x => by kernel_rfl)
noncomputable abbrev P59b : List PT := [.val ⟨false, (.sl 3 (.int .i64)), false⟩, .pv (.clo 60 [.ref (.int .i64)])]
noncomputable abbrev R59b : List RT := [.val ⟨false, .bool, true⟩]
noncomputable def S59b (k : Nat) (s : List Int) (f : Int) : Option Y1_9 :=
 (S79b k s f).bind fun q0 =>
 some ((decide (q0.1.1 ≥ 0), ()), ())
noncomputable def E59b : Env := tab.env (lk [(79, F79b)]) (hintL [])
theorem E59b_ok : EnvOK Try.prog E59b := envOK_of tabOK _ _ (allFn_lk (l := [(79, F79b)]) ⟨ok79b, trivial⟩)
noncomputable def B59b (k : Nat) : Tbl (RD R59b × MD P59b) := .nil
noncomputable def F59b : Fn := ⟨P59b, R59b, fun k x => S59b k x.1 x.2.1.1⟩
theorem ok59b : FnOK Try.prog 59 F59b := evalF_ok (E := E59b) (T := B59b) E59b_ok mix Try.func59 rfl (by kernel_rfl) (by kernel_rfl) (fun k => by kernel_rfl) (fun k x => by kernel_rfl)
noncomputable abbrev P33 : List PT := [.val ⟨false, Y1_1, false⟩]
noncomputable abbrev R33 : List RT := [.val ⟨false, .bool, true⟩]
noncomputable abbrev c33_L11 : Cut := ⟨[4, 6, 42, 43, 44], [.own 3 (.int .i64), .own 92 Y1_14, .cell Y1_1, .cell (.int .i64), .cell (.int .i64)], [], 66⟩
noncomputable def l33_11 (k : Nat) (g11 : (List Int) → Y1_5 → (List Y1_0) → Int → Int → Option Y1_9) (pairs : List Int) (all : List Y1_13) (t42 : List Y1_0) (t43 : Int) (t44 : Int) : Option Y1_9 :=
 (bif decide (t44 < t43) then
  ix t42 t44 <|
  (bif (rd t42 t44 (0, 0, 0, 0)).1 != 11 then
   g11 pairs all t42 t43 (IntKind.i64.wrap (t44 + 1))
  else
   ix all t44 <|
   (bif !(beqD Y1_14 (rd all t44 (prep (α := Bool) 24 false)) (false, false, false, false, false, false, false, false, false, false, false, false, false, false, false, false, false, false, false, false, false, false, false, false)) then
    some ((false, ()), ())
   else
    sx pairs 0 t44 <|
    (S59b k (sub pairs 0 t44) t44).bind fun q5 =>
    (bif q5.1.1 then
     some ((false, ()), ())
    else
     g11 pairs all t42 t43 (IntKind.i64.wrap (t44 + 1)))))
 else
  some ((true, ()), ()))
noncomputable def b33_11 (k : Nat) (g : ((Unit) × (List Int) × Y1_5 × (List Y1_0) × Int × Int × Unit) → Option Y1_9) (d : (Unit) × (List Int) × Y1_5 × (List Y1_0) × Int × Int × Unit) : Option Y1_9 := l33_11 k (fun pairs all t42 t43 t44 => g ((), pairs, all, t42, t43, t44, ())) d.2.1 d.2.2.1 d.2.2.2.1 d.2.2.2.2.1 d.2.2.2.2.2.1
noncomputable def L33_11 (k : Nat) (j : Nat) (pairs : List Int) (all : List Y1_13) (t42 : List Y1_0) (t43 : Int) (t44 : Int) : Option Y1_9 := iter (R := (Bool × Unit) × Unit) c33_L11 (b33_11 k) j ((), pairs, all, t42, t43, t44, ())
theorem L33_11_s (k : Nat) (j : Nat) (pairs : List Int) (all : List Y1_13) (t42 : List Y1_0) (t43 : Int) (t44 : Int) : L33_11 k (j + 1) pairs all t42 t43 t44 = l33_11 k (L33_11 k j) pairs all t42 t43 t44 := iter_succ _ _ _ _
noncomputable def S33 (k : Nat) (l_ : List Y1_0) : Option Y1_9 :=
 (bif decide ((l_.length : Int) < 1) then
  some ((false, ()), ())
 else
  (bif decide ((l_.length : Int) > 24) then
   some ((false, ()), ())
  else
   (S42a k l_).bind fun q0 =>
   (bif q0.1.1 then
    some ((false, ()), ())
   else
    (S55b k l_).bind fun q1 =>
    (bif q1.1.1 != (IntKind.i64.wrap ((l_.length : Int) - 1)) then
     some ((false, ()), ())
    else
     (S57 k l_).bind fun q2 =>
     (bif !q2.1.1 then
      some ((false, ()), ())
     else
      (S47 k l_).bind fun q3 =>
      (bif !q3.1.2.1 then
       some ((false, ()), ())
      else
       (S58 k l_).bind fun q4 =>
       L33_11 k k q3.1.1 q4.1.1 l_ (l_.length : Int) 0))))))
noncomputable def E33 : Env := tab.env (lk [(42, F42a), (47, F47), (55, F55b), (57, F57), (58, F58), (59, F59b)]) (hintL [])
theorem E33_ok : EnvOK Try.prog E33 := envOK_of tabOK _ _ (allFn_lk (l := [(42, F42a), (47, F47), (55, F55b), (57, F57), (58, F58), (59, F59b)]) ⟨ok42a, ok47, ok55b, ok57, ok58, ok59b, trivial⟩)
noncomputable def B33 (k : Nat) : Tbl (RD R33 × MD P33) := (.loop 11 c33_L11 (b33_11 k) (fun g => .nil) .nil)
noncomputable def F33 : Fn := ⟨P33, R33, fun k x => S33 k x.1⟩
theorem ok33 : FnOK Try.prog 33 F33 := evalF_ok (E := E33) (T := B33) E33_ok mix Try.func33 rfl (by kernel_rfl) (by kernel_rfl) (fun k => by kernel_rfl) (fun k x => by kernel_rfl)
noncomputable abbrev P34 : List PT := [.val ⟨false, Y1_1, false⟩]
noncomputable abbrev R34 : List RT := [.val ⟨false, .bool, true⟩]
noncomputable def S34 (k : Nat) (l_ : List Y1_0) : Option Y1_9 :=
 (bif (l_.length : Int) == 0 then
  some ((true, ()), ())
 else
  (S33 k l_).bind fun q0 =>
  some ((q0.1.1, ()), ()))
noncomputable def E34 : Env := tab.env (lk [(33, F33)]) (hintL [])
theorem E34_ok : EnvOK Try.prog E34 := envOK_of tabOK _ _ (allFn_lk (l := [(33, F33)]) ⟨ok33, trivial⟩)
noncomputable def B34 (k : Nat) : Tbl (RD R34 × MD P34) := .nil
noncomputable def F34 : Fn := ⟨P34, R34, fun k x => S34 k x.1⟩
theorem ok34 : FnOK Try.prog 34 F34 := evalF_ok (E := E34) (T := B34) E34_ok mix Try.func34 rfl (by kernel_rfl) (by kernel_rfl) (fun k => by kernel_rfl) (fun k x => by kernel_rfl)
noncomputable abbrev P61 : List PT := [.val ⟨true, (.pair (.int .i64) (.pair (.int .i64) (.pair (.int .i64) (.int .i64)))), false⟩]
noncomputable abbrev R61 : List RT := [.val ⟨false, .bool, true⟩]
noncomputable def S61 (k : Nat) (i : Int × Int × Int × Int) : Option Y1_9 :=
 some ((i.1 == 9, ()), ())
noncomputable def E61 : Env := tab.env (lk []) (hintL [])
theorem E61_ok : EnvOK Try.prog E61 := envOK_of tabOK _ _ (fun f F h => by cases h)
noncomputable def B61 (k : Nat) : Tbl (RD R61 × MD P61) := .nil
noncomputable def F61 : Fn := ⟨P61, R61, fun k x => S61 k x.1⟩
theorem ok61 : FnOK Try.prog 61 F61 := evalF_ok (E := E61) (T := B61) E61_ok mix Try.func61 rfl (by kernel_rfl) (by kernel_rfl) (fun k => by kernel_rfl) (fun k x => by kernel_rfl)
noncomputable abbrev P55c : List PT := [.val ⟨false, Y1_1, false⟩, .pv (.clo 61 [])]
noncomputable abbrev R55c : List RT := [.val ⟨false, (.int .i64), true⟩]
noncomputable abbrev c55c_L2 : Cut := ⟨[0, 1, 7, 8], [.cell Y1_1, .clo 61 [], .cell (.int .i64), .cell (.int .i64)], [], 19⟩
noncomputable def l55c_2 (k : Nat) (g2 : (List Y1_0) → Int → Int → Option Y1_4) (s1 : List Y1_0) (t7 : Int) (t8 : Int) : Option Y1_4 :=
 (bif decide (t8 < t7) then
  ix s1 t8 <|
  (S61 k (rd s1 t8 (0, 0, 0, 0))).bind fun q0 =>
  (bif q0.1.1 then
   some ((t8, ()), ())
  else
   g2 s1 t7 (IntKind.i64.wrap (t8 + 1)))
 else
  some (((-1), ()), ()))
noncomputable def b55c_2 (k : Nat) (g : ((Unit) × (List Y1_0) × Unit × Int × Int × Unit) → Option Y1_4) (d : (Unit) × (List Y1_0) × Unit × Int × Int × Unit) : Option Y1_4 := l55c_2 k (fun s1 t7 t8 => g ((), s1, (), t7, t8, ())) d.2.1 d.2.2.2.1 d.2.2.2.2.1
noncomputable def L55c_2 (k : Nat) (j : Nat) (s1 : List Y1_0) (t7 : Int) (t8 : Int) : Option Y1_4 := iter (R := (Int × Unit) × Unit) c55c_L2 (b55c_2 k) j ((), s1, (), t7, t8, ())
theorem L55c_2_s (k : Nat) (j : Nat) (s1 : List Y1_0) (t7 : Int) (t8 : Int) : L55c_2 k (j + 1) s1 t7 t8 = l55c_2 k (L55c_2 k j) s1 t7 t8 := iter_succ _ _ _ _
noncomputable def S55c (k : Nat) (s : List Y1_0) : Option Y1_4 :=
 L55c_2 k k s (s.length : Int) 0
noncomputable def E55c : Env := tab.env (lk [(61, F61)]) (hintL [])
theorem E55c_ok : EnvOK Try.prog E55c := envOK_of tabOK _ _ (allFn_lk (l := [(61, F61)]) ⟨ok61, trivial⟩)
noncomputable def B55c (k : Nat) : Tbl (RD R55c × MD P55c) := (.loop 2 c55c_L2 (b55c_2 k) (fun g => .nil) .nil)
noncomputable def F55c : Fn := ⟨P55c, R55c, fun k x => S55c k x.1⟩
theorem ok55c : FnOK Try.prog 55 F55c := evalF_ok (E := E55c) (T := B55c) E55c_ok mix Try.func55 rfl (by kernel_rfl) (by kernel_rfl) (fun k => by kernel_rfl) (fun k x => by kernel_rfl)
noncomputable abbrev P42b : List PT := [.val ⟨false, Y1_1, false⟩, .pv (.clo 61 [])]
noncomputable abbrev R42b : List RT := [.val ⟨false, .bool, true⟩]
noncomputable def S42b (k : Nat) (s : List Y1_0) : Option Y1_9 :=
 (S55c k s).bind fun q0 =>
 some ((decide (q0.1.1 ≥ 0), ()), ())
noncomputable def E42b : Env := tab.env (lk [(55, F55c)]) (hintL [])
theorem E42b_ok : EnvOK Try.prog E42b := envOK_of tabOK _ _ (allFn_lk (l := [(55, F55c)]) ⟨ok55c, trivial⟩)
noncomputable def B42b (k : Nat) : Tbl (RD R42b × MD P42b) := .nil
noncomputable def F42b : Fn := ⟨P42b, R42b, fun k x => S42b k x.1⟩
theorem ok42b : FnOK Try.prog 42 F42b := evalF_ok (E := E42b) (T := B42b) E42b_ok mix Try.func42 rfl (by kernel_rfl) (by kernel_rfl) (fun k => by kernel_rfl) (fun k x => by kernel_rfl)
noncomputable abbrev P35 : List PT := [.val ⟨false, Y1_1, false⟩]
noncomputable abbrev R35 : List RT := [.val ⟨false, .bool, true⟩]
noncomputable def S35 (k : Nat) (l_ : List Y1_0) : Option Y1_9 :=
 (S42b k l_).bind fun q0 =>
 some ((q0.1.1, ()), ())
noncomputable def E35 : Env := tab.env (lk [(42, F42b)]) (hintL [])
theorem E35_ok : EnvOK Try.prog E35 := envOK_of tabOK _ _ (allFn_lk (l := [(42, F42b)]) ⟨ok42b, trivial⟩)
noncomputable def B35 (k : Nat) : Tbl (RD R35 × MD P35) := .nil
noncomputable def F35 : Fn := ⟨P35, R35, fun k x => S35 k x.1⟩
theorem ok35 : FnOK Try.prog 35 F35 := evalF_ok (E := E35) (T := B35) E35_ok mix Try.func35 rfl (by kernel_rfl) (by kernel_rfl) (fun k => by kernel_rfl) (fun k x => by kernel_rfl)
noncomputable abbrev P83 : List PT := [.val ⟨false, (.int .i64), false⟩]
noncomputable abbrev R83 : List RT := [.val ⟨false, (.int .u64), true⟩]
noncomputable def S83 (k : Nat) (v : Int) : Option Y1_4 :=
 (bif decide (v < 0) then
  some ((IntKind.u64.wrap (0 - (IntKind.u64.wrap v)), ()), ())
 else
  some ((IntKind.u64.wrap v, ()), ()))
noncomputable def E83 : Env := tab.env (lk []) (hintL [])
theorem E83_ok : EnvOK Try.prog E83 := envOK_of tabOK _ _ (fun f F h => by cases h)
noncomputable def B83 (k : Nat) : Tbl (RD R83 × MD P83) := .nil
noncomputable def F83 : Fn := ⟨P83, R83, fun k x => S83 k x.1⟩
theorem ok83 : FnOK Try.prog 83 F83 := evalF_ok (E := E83) (T := B83) E83_ok mix Try.func83 rfl (by kernel_rfl) (by kernel_rfl) (fun k => by kernel_rfl) (fun k x => by kernel_rfl)
noncomputable abbrev P82 : List PT := [.val ⟨false, (.int .u64), false⟩, .val ⟨false, (.int .u64), false⟩]
noncomputable abbrev R82 : List RT := [.val ⟨false, (.int .u64), true⟩, .val ⟨false, .bool, true⟩]
noncomputable def S82 (k : Nat) (a : Int) (b : Int) : Option Y1_15 :=
 (bif decide ((ishr .u64 a 32) > 0) then
  (bif decide ((ishr .u64 b 32) > 0) then
   some ((0, false, ()), ())
  else
   (bif decide ((ishr .u64 (ior .u64 (IntKind.u64.wrap ((ishr .u64 a 32) * (IntKind.u64.wrap (IntKind.u32.wrap b)))) (IntKind.u64.wrap ((IntKind.u64.wrap (IntKind.u32.wrap a)) * (ishr .u64 b 32)))) 32) > 0) then
    some ((0, false, ()), ())
   else
    some ((IntKind.u64.wrap ((IntKind.u64.wrap ((IntKind.u64.wrap (IntKind.u32.wrap a)) * (IntKind.u64.wrap (IntKind.u32.wrap b)))) + (ishl .u64 (ior .u64 (IntKind.u64.wrap ((ishr .u64 a 32) * (IntKind.u64.wrap (IntKind.u32.wrap b)))) (IntKind.u64.wrap ((IntKind.u64.wrap (IntKind.u32.wrap a)) * (ishr .u64 b 32)))) 32)), decide ((IntKind.u64.wrap ((IntKind.u64.wrap ((IntKind.u64.wrap (IntKind.u32.wrap a)) * (IntKind.u64.wrap (IntKind.u32.wrap b)))) + (ishl .u64 (ior .u64 (IntKind.u64.wrap ((ishr .u64 a 32) * (IntKind.u64.wrap (IntKind.u32.wrap b)))) (IntKind.u64.wrap ((IntKind.u64.wrap (IntKind.u32.wrap a)) * (ishr .u64 b 32)))) 32))) ≥ (IntKind.u64.wrap ((IntKind.u64.wrap (IntKind.u32.wrap a)) * (IntKind.u64.wrap (IntKind.u32.wrap b))))), ()), ())))
 else
  (bif decide ((ishr .u64 (ior .u64 (IntKind.u64.wrap ((ishr .u64 a 32) * (IntKind.u64.wrap (IntKind.u32.wrap b)))) (IntKind.u64.wrap ((IntKind.u64.wrap (IntKind.u32.wrap a)) * (ishr .u64 b 32)))) 32) > 0) then
   some ((0, false, ()), ())
  else
   some ((IntKind.u64.wrap ((IntKind.u64.wrap ((IntKind.u64.wrap (IntKind.u32.wrap a)) * (IntKind.u64.wrap (IntKind.u32.wrap b)))) + (ishl .u64 (ior .u64 (IntKind.u64.wrap ((ishr .u64 a 32) * (IntKind.u64.wrap (IntKind.u32.wrap b)))) (IntKind.u64.wrap ((IntKind.u64.wrap (IntKind.u32.wrap a)) * (ishr .u64 b 32)))) 32)), decide ((IntKind.u64.wrap ((IntKind.u64.wrap ((IntKind.u64.wrap (IntKind.u32.wrap a)) * (IntKind.u64.wrap (IntKind.u32.wrap b)))) + (ishl .u64 (ior .u64 (IntKind.u64.wrap ((ishr .u64 a 32) * (IntKind.u64.wrap (IntKind.u32.wrap b)))) (IntKind.u64.wrap ((IntKind.u64.wrap (IntKind.u32.wrap a)) * (ishr .u64 b 32)))) 32))) ≥ (IntKind.u64.wrap ((IntKind.u64.wrap (IntKind.u32.wrap a)) * (IntKind.u64.wrap (IntKind.u32.wrap b))))), ()), ())))
noncomputable def E82 : Env := tab.env (lk []) (hintL [])
theorem E82_ok : EnvOK Try.prog E82 := envOK_of tabOK _ _ (fun f F h => by cases h)
noncomputable def B82 (k : Nat) : Tbl (RD R82 × MD P82) := .nil
noncomputable def F82 : Fn := ⟨P82, R82, fun k x => S82 k x.1 x.2.1⟩
theorem ok82 : FnOK Try.prog 82 F82 := evalF_ok (E := E82) (T := B82) E82_ok mix Try.func82 rfl (by kernel_rfl) (by kernel_rfl) (fun k => by kernel_rfl) (fun k x => by kernel_rfl)
noncomputable abbrev P84 : List PT := [.val ⟨false, .bool, false⟩]
noncomputable abbrev R84 : List RT := [.val ⟨false, (.int .i64), true⟩, .val ⟨false, .bool, true⟩]
noncomputable def S84 (k : Nat) (below : Bool) : Option Y1_15 :=
 (bif below then
  some (((-9223372036854775808), false, ()), ())
 else
  some ((9223372036854775807, false, ()), ()))
noncomputable def E84 : Env := tab.env (lk []) (hintL [])
theorem E84_ok : EnvOK Try.prog E84 := envOK_of tabOK _ _ (fun f F h => by cases h)
noncomputable def B84 (k : Nat) : Tbl (RD R84 × MD P84) := .nil
noncomputable def F84 : Fn := ⟨P84, R84, fun k x => S84 k x.1⟩
theorem ok84 : FnOK Try.prog 84 F84 := evalF_ok (E := E84) (T := B84) E84_ok mix Try.func84 rfl (by kernel_rfl) (by kernel_rfl) (fun k => by kernel_rfl) (fun k x => by kernel_rfl)
noncomputable abbrev P66 : List PT := [.val ⟨false, (.int .i64), false⟩, .val ⟨false, (.int .i64), false⟩]
noncomputable abbrev R66 : List RT := [.val ⟨false, (.int .i64), true⟩, .val ⟨false, .bool, true⟩]
noncomputable abbrev c66_J5 : Cut := ⟨[0, 1, 6, 7], [.cell (.int .i64), .cell (.int .i64), .cell .bool, .cell (.int .u64)], [], 45⟩
noncomputable def j66_5 (k : Nat) (a1 : Int) (b1 : Int) (below : Bool) (most : Int) : Option Y1_15 :=
 (S83 k a1).bind fun q0 =>
 (S83 k b1).bind fun q1 =>
 (S82 k q0.1.1 q1.1.1).bind fun q2 =>
 (bif !q2.1.2.1 then
  (S84 k below).bind fun q3 =>
  some ((q3.1.1, q3.1.2.1, ()), ())
 else
  (bif decide (q2.1.1 > most) then
   (S84 k below).bind fun q4 =>
   some ((q4.1.1, q4.1.2.1, ()), ())
  else
   (bif below then
    some ((IntKind.i64.wrap (IntKind.u64.wrap (0 - q2.1.1)), true, ()), ())
   else
    some ((IntKind.i64.wrap q2.1.1, true, ()), ()))))
noncomputable def S66 (k : Nat) (a : Int) (b : Int) : Option Y1_15 :=
 (bif !((decide (a < 0)) == (decide (b < 0))) then
  j66_5 k a b (!((decide (a < 0)) == (decide (b < 0)))) 9223372036854775808
 else
  j66_5 k a b (!((decide (a < 0)) == (decide (b < 0)))) 9223372036854775807)
noncomputable def E66 : Env := tab.env (lk [(82, F82), (83, F83), (84, F84)]) (hintL [])
theorem E66_ok : EnvOK Try.prog E66 := envOK_of tabOK _ _ (allFn_lk (l := [(82, F82), (83, F83), (84, F84)]) ⟨ok82, ok83, ok84, trivial⟩)
noncomputable def B66 (k : Nat) : Tbl (RD R66 × MD P66) := (.join 5 c66_J5 (fun d => j66_5 k d.2.1 d.2.2.1 d.2.2.2.1 d.2.2.2.2.1) .nil)
noncomputable def F66 : Fn := ⟨P66, R66, fun k x => S66 k x.1 x.2.1⟩
theorem ok66 : FnOK Try.prog 66 F66 := evalF_ok (E := E66) (T := B66) E66_ok mix Try.func66 rfl (by kernel_rfl) (by kernel_rfl) (fun k => by kernel_rfl) (fun k x => by kernel_rfl)
noncomputable abbrev P46 : List PT := [.val ⟨false, Y1_1, false⟩]
noncomputable abbrev R46 : List RT := [.val ⟨false, (.sl 2 (.int .i64)), true⟩]
noncomputable abbrev c46_L12 : Cut := ⟨[3, 5, 6, 7, 20, 21, 22], [.own 2 (.int .i64), .cell (.int .i64), .box 42 [.cell (.int .i64), .cell (.int .i64), .cell (.int .i64), .cell (.int .i64)], .cell (.int .i64), .cell Y1_1, .cell (.int .i64), .cell (.int .i64)], [], 55⟩
noncomputable def l46_12 (k : Nat) (g8 : Y1_8) (g12 : (List Int) → Int → Int → Int → Int → Int → Int → (List Y1_0) → Int → Int → Option Y1_3) (out2 : List Int) (i : Int) (x : Int) (x1 : Int) (x2 : Int) (x3 : Int) (k_ : Int) (t20_1 : List Y1_0) (t21_1 : Int) (t22_1 : Int) : Option Y1_3 :=
 (bif decide (k_ ≤ (IntKind.i64.wrap (i + x2))) then
  ix out2 k_ <|
  (S66 k (rd out2 k_ 0) x3).bind fun q0 =>
  ix out2 k_ <|
  g12 (upd out2 k_ q0.1.1) i x x1 x2 x3 (IntKind.i64.wrap (k_ + 1)) t20_1 t21_1 t22_1
 else
  g8 out2 t20_1 t21_1 (IntKind.i64.wrap (t22_1 + 1)))
noncomputable def b46_12 (k : Nat) (g8 : Y1_8) (g : ((Unit) × (List Int) × Int × (Int × Int × Int × Int × Unit) × Int × (List Y1_0) × Int × Int × Unit) → Option Y1_3) (d : (Unit) × (List Int) × Int × (Int × Int × Int × Int × Unit) × Int × (List Y1_0) × Int × Int × Unit) : Option Y1_3 := l46_12 k g8 (fun out2 i x x1 x2 x3 k_ t20_1 t21_1 t22_1 => g ((), out2, i, (x, x1, x2, x3, ()), k_, t20_1, t21_1, t22_1, ())) d.2.1 d.2.2.1 d.2.2.2.1.1 d.2.2.2.1.2.1 d.2.2.2.1.2.2.1 d.2.2.2.1.2.2.2.1 d.2.2.2.2.1 d.2.2.2.2.2.1 d.2.2.2.2.2.2.1 d.2.2.2.2.2.2.2.1
noncomputable def L46_12 (k : Nat) (g8 : Y1_8) (j : Nat) (out2 : List Int) (i : Int) (x : Int) (x1 : Int) (x2 : Int) (x3 : Int) (k_ : Int) (t20_1 : List Y1_0) (t21_1 : Int) (t22_1 : Int) : Option Y1_3 := iter (R := ((List Int) × Unit) × Unit) c46_L12 (b46_12 k g8) j ((), out2, i, (x, x1, x2, x3, ()), k_, t20_1, t21_1, t22_1, ())
theorem L46_12_s (k : Nat) (g8 : Y1_8) (j : Nat) (out2 : List Int) (i : Int) (x : Int) (x1 : Int) (x2 : Int) (x3 : Int) (k_ : Int) (t20_1 : List Y1_0) (t21_1 : Int) (t22_1 : Int) : L46_12 k g8 (j + 1) out2 i x x1 x2 x3 k_ t20_1 t21_1 t22_1 = l46_12 k g8 (L46_12 k g8 j) out2 i x x1 x2 x3 k_ t20_1 t21_1 t22_1 := iter_succ _ _ _ _
noncomputable abbrev c46_L8 : Cut := ⟨[3, 20, 21, 22], [.own 2 (.int .i64), .cell Y1_1, .cell (.int .i64), .cell (.int .i64)], [], 55⟩
noncomputable def l46_8 (k : Nat) (g8 : Y1_8) (out1 : List Int) (t20 : List Y1_0) (t21 : Int) (t22 : Int) : Option Y1_3 :=
 (bif decide (t22 < t21) then
  ix t20 t22 <|
  (bif (rd t20 t22 (0, 0, 0, 0)).1 != 8 then
   g8 out1 t20 t21 (IntKind.i64.wrap (t22 + 1))
  else
   L46_12 k g8 k out1 t22 (rd t20 t22 (0, 0, 0, 0)).1 (rd t20 t22 (0, 0, 0, 0)).2.1 (rd t20 t22 (0, 0, 0, 0)).2.2.1 (rd t20 t22 (0, 0, 0, 0)).2.2.2 (IntKind.i64.wrap (t22 + 1)) t20 t21 t22)
 else
  some ((out1, ()), ()))
noncomputable def b46_8 (k : Nat) (g : ((Unit) × (List Int) × (List Y1_0) × Int × Int × Unit) → Option Y1_3) (d : (Unit) × (List Int) × (List Y1_0) × Int × Int × Unit) : Option Y1_3 := l46_8 k (fun out1 t20 t21 t22 => g ((), out1, t20, t21, t22, ())) d.2.1 d.2.2.1 d.2.2.2.1 d.2.2.2.2.1
noncomputable def L46_8 (k : Nat) (j : Nat) (out1 : List Int) (t20 : List Y1_0) (t21 : Int) (t22 : Int) : Option Y1_3 := iter (R := ((List Int) × Unit) × Unit) c46_L8 (b46_8 k) j ((), out1, t20, t21, t22, ())
theorem L46_8_s (k : Nat) (j : Nat) (out1 : List Int) (t20 : List Y1_0) (t21 : Int) (t22 : Int) : L46_8 k (j + 1) out1 t20 t21 t22 = l46_8 k (L46_8 k j) out1 t20 t21 t22 := iter_succ _ _ _ _
noncomputable abbrev c46_L3 : Cut := ⟨[0, 3, 12, 13], [.cell Y1_1, .own 2 (.int .i64), .cell (.int .i64), .cell (.int .i64)], [], 55⟩
noncomputable def l46_3 (k : Nat) (g3 : (List Y1_0) → (List Int) → Int → Int → Option Y1_3) (l_1 : List Y1_0) (out : List Int) (t12 : Int) (t13 : Int) : Option Y1_3 :=
 (bif decide (t13 < t12) then
  ix out t13 <|
  g3 l_1 (upd out t13 1) t12 (IntKind.i64.wrap (t13 + 1))
 else
  L46_8 k k out l_1 (l_1.length : Int) 0)
noncomputable def b46_3 (k : Nat) (g : ((Unit) × (List Y1_0) × (List Int) × Int × Int × Unit) → Option Y1_3) (d : (Unit) × (List Y1_0) × (List Int) × Int × Int × Unit) : Option Y1_3 := l46_3 k (fun l_1 out t12 t13 => g ((), l_1, out, t12, t13, ())) d.2.1 d.2.2.1 d.2.2.2.1 d.2.2.2.2.1
noncomputable def L46_3 (k : Nat) (j : Nat) (l_1 : List Y1_0) (out : List Int) (t12 : Int) (t13 : Int) : Option Y1_3 := iter (R := ((List Int) × Unit) × Unit) c46_L3 (b46_3 k) j ((), l_1, out, t12, t13, ())
theorem L46_3_s (k : Nat) (j : Nat) (l_1 : List Y1_0) (out : List Int) (t12 : Int) (t13 : Int) : L46_3 k (j + 1) l_1 out t12 t13 = l46_3 k (L46_3 k j) l_1 out t12 t13 := iter_succ _ _ _ _
noncomputable def S46 (k : Nat) (l_ : List Y1_0) : Option Y1_3 :=
 mk (l_.length : Int) (l_.length : Int) 8 <|
 L46_3 k k l_ (List.replicate (l_.length : Int).toNat (0 : Int)) ((List.replicate (l_.length : Int).toNat (0 : Int)).length : Int) 0
noncomputable def E46 : Env := tab.env (lk [(66, F66)]) (hintL [])
theorem E46_ok : EnvOK Try.prog E46 := envOK_of tabOK _ _ (allFn_lk (l := [(66, F66)]) ⟨ok66, trivial⟩)
noncomputable def B46 (k : Nat) : Tbl (RD R46 × MD P46) := (.loop 8 c46_L8 (b46_8 k) (fun g => (fun (g8 : Y1_8) => (.loop 12 c46_L12 (b46_12 k g8) (fun g => .nil) .nil)) (fun out1 t20 t21 t22 => g ((), out1, t20, t21, t22, ()))) (.loop 3 c46_L3 (b46_3 k) (fun g => .nil) .nil))
noncomputable def F46 : Fn := ⟨P46, R46, fun k x => S46 k x.1⟩
theorem ok46 : FnOK Try.prog 46 F46 := evalF_ok (E := E46) (T := B46) E46_ok mix Try.func46 rfl (by kernel_rfl) (by kernel_rfl) (fun k => by kernel_rfl) (fun k x => by kernel_rfl)
noncomputable abbrev P68 : List PT := [.val ⟨false, (.int .i64), false⟩, .val ⟨false, (.int .i64), false⟩]
noncomputable abbrev R68 : List RT := [.val ⟨false, (.int .i64), true⟩, .val ⟨false, .bool, true⟩]
noncomputable def S68 (k : Nat) (a : Int) (b : Int) : Option Y1_15 :=
 (bif decide ((iand .i64 (ixor .i64 a (IntKind.i64.wrap (IntKind.u64.wrap ((IntKind.u64.wrap a) + (IntKind.u64.wrap b))))) (ixor .i64 b (IntKind.i64.wrap (IntKind.u64.wrap ((IntKind.u64.wrap a) + (IntKind.u64.wrap b)))))) < 0) then
  (S84 k (decide (a < 0))).bind fun q0 =>
  some ((q0.1.1, q0.1.2.1, ()), ())
 else
  some ((IntKind.i64.wrap (IntKind.u64.wrap ((IntKind.u64.wrap a) + (IntKind.u64.wrap b))), true, ()), ()))
noncomputable def E68 : Env := tab.env (lk [(84, F84)]) (hintL [])
theorem E68_ok : EnvOK Try.prog E68 := envOK_of tabOK _ _ (allFn_lk (l := [(84, F84)]) ⟨ok84, trivial⟩)
noncomputable def B68 (k : Nat) : Tbl (RD R68 × MD P68) := .nil
noncomputable def F68 : Fn := ⟨P68, R68, fun k x => S68 k x.1 x.2.1⟩
theorem ok68 : FnOK Try.prog 68 F68 := evalF_ok (E := E68) (T := B68) E68_ok mix Try.func68 rfl (by kernel_rfl) (by kernel_rfl) (fun k => by kernel_rfl) (fun k x => by kernel_rfl)
noncomputable abbrev P48 : List PT := [.val ⟨false, (.sl 2 (.int .i64)), false⟩]
noncomputable abbrev R48 : List RT := [.val ⟨false, (.int .i64), true⟩]
noncomputable abbrev c48_L2 : Cut := ⟨[2, 5, 6, 7], [.cell (.int .i64), .cell (.sl 2 (.int .i64)), .cell (.int .i64), .cell (.int .i64)], [], 19⟩
noncomputable def l48_2 (k : Nat) (g2 : Int → (List Int) → Int → Int → Option Y1_4) (s : Int) (t5 : List Int) (t6 : Int) (t7 : Int) : Option Y1_4 :=
 (bif decide (t7 < t6) then
  ix t5 t7 <|
  (S68 k s (rd t5 t7 0)).bind fun q0 =>
  g2 q0.1.1 t5 t6 (IntKind.i64.wrap (t7 + 1))
 else
  some ((s, ()), ()))
noncomputable def b48_2 (k : Nat) (g : ((Unit) × Int × (List Int) × Int × Int × Unit) → Option Y1_4) (d : (Unit) × Int × (List Int) × Int × Int × Unit) : Option Y1_4 := l48_2 k (fun s t5 t6 t7 => g ((), s, t5, t6, t7, ())) d.2.1 d.2.2.1 d.2.2.2.1 d.2.2.2.2.1
noncomputable def L48_2 (k : Nat) (j : Nat) (s : Int) (t5 : List Int) (t6 : Int) (t7 : Int) : Option Y1_4 := iter (R := (Int × Unit) × Unit) c48_L2 (b48_2 k) j ((), s, t5, t6, t7, ())
theorem L48_2_s (k : Nat) (j : Nat) (s : Int) (t5 : List Int) (t6 : Int) (t7 : Int) : L48_2 k (j + 1) s t5 t6 t7 = l48_2 k (L48_2 k j) s t5 t6 t7 := iter_succ _ _ _ _
noncomputable def S48 (k : Nat) (l_ : List Int) : Option Y1_4 :=
 L48_2 k k 0 l_ (l_.length : Int) 0
noncomputable def E48 : Env := tab.env (lk [(68, F68)]) (hintL [])
theorem E48_ok : EnvOK Try.prog E48 := envOK_of tabOK _ _ (allFn_lk (l := [(68, F68)]) ⟨ok68, trivial⟩)
noncomputable def B48 (k : Nat) : Tbl (RD R48 × MD P48) := (.loop 2 c48_L2 (b48_2 k) (fun g => .nil) .nil)
noncomputable def F48 : Fn := ⟨P48, R48, fun k x => S48 k x.1⟩
theorem ok48 : FnOK Try.prog 48 F48 := evalF_ok (E := E48) (T := B48) E48_ok mix Try.func48 rfl (by kernel_rfl) (by kernel_rfl) (fun k => by kernel_rfl) (fun k x => by kernel_rfl)
noncomputable abbrev P30 : List PT := [.val ⟨false, Y1_1, false⟩]
noncomputable abbrev R30 : List RT := [.val ⟨true, (.pair (.int .i64) (.pair (.int .i64) (.sl 39 (.pair (.int .i64) (.int .i64))))), true⟩, .val ⟨false, .bool, true⟩]
noncomputable abbrev c30_L7 : Cut := ⟨[2, 4, 5, 6, 24, 25, 26], [.box 60 [.cell (.int .i64), .cell (.int .i64), .own 39 (.pair (.int .i64) (.int .i64))], .own 2 (.int .i64), .cell (.int .i64), .own 3 (.int .i64), .cell Y1_1, .cell (.int .i64), .cell (.int .i64)], [], 75⟩
noncomputable def l30_7 (k : Nat) (g7 : Int → Int → (List (Int × Int)) → (List Int) → Int → (List Int) → (List Y1_0) → Int → Int → Option Y1_7) (c : Int) (c1 : Int) (c2 : List (Int × Int)) (all : List Int) (from_ : Int) (pairs : List Int) (t24 : List Y1_0) (t25 : Int) (t26 : Int) : Option Y1_7 :=
 (bif decide (t26 < t25) then
  ix t24 t26 <|
  (bif (rd t24 t26 (0, 0, 0, 0)).1 == 11 then
   sx all from_ (IntKind.i64.wrap (t26 + 1)) <|
   (S48 k (sub all from_ (IntKind.i64.wrap (t26 + 1)))).bind fun q4 =>
   g7 c (mx c1 q4.1.1) c2 all (IntKind.i64.wrap (t26 + 1)) pairs t24 t25 (IntKind.i64.wrap (t26 + 1))
  else
   (bif (rd t24 t26 (0, 0, 0, 0)).1 == 0 then
    sx all from_ (IntKind.i64.wrap (t26 + 1)) <|
    (S48 k (sub all from_ (IntKind.i64.wrap (t26 + 1)))).bind fun q5 =>
    g7 c (mx c1 q5.1.1) c2 all (IntKind.i64.wrap (t26 + 1)) pairs t24 t25 (IntKind.i64.wrap (t26 + 1))
   else
    (bif (rd t24 t26 (0, 0, 0, 0)).1 == 9 then
     ix pairs t26 <|
     sx all (IntKind.i64.wrap (t26 + 1)) (IntKind.i64.wrap ((rd pairs t26 0) + 1)) <|
     (S48 k (sub all (IntKind.i64.wrap (t26 + 1)) (IntKind.i64.wrap ((rd pairs t26 0) + 1)))).bind fun q6 =>
     ix all t26 <|
     nz (rd all t26 0) <|
     ap c2 ([((rd t24 t26 (0, 0, 0, 0)).2.1, IntKind.i64.wrap (Int.tdiv q6.1.1 (rd all t26 0)))] : List (Int × Int)) 16 fun r7 =>
     g7 c c1 r7 all from_ pairs t24 t25 (IntKind.i64.wrap (t26 + 1))
    else
     g7 c c1 c2 all from_ pairs t24 t25 (IntKind.i64.wrap (t26 + 1)))))
 else
  some (((c, c1, c2), true, ()), ()))
noncomputable def b30_7 (k : Nat) (g : ((Unit) × (Int × Int × (List (Int × Int)) × Unit) × (List Int) × Int × (List Int) × (List Y1_0) × Int × Int × Unit) → Option Y1_7) (d : (Unit) × (Int × Int × (List (Int × Int)) × Unit) × (List Int) × Int × (List Int) × (List Y1_0) × Int × Int × Unit) : Option Y1_7 := l30_7 k (fun c c1 c2 all from_ pairs t24 t25 t26 => g ((), (c, c1, c2, ()), all, from_, pairs, t24, t25, t26, ())) d.2.1.1 d.2.1.2.1 d.2.1.2.2.1 d.2.2.1 d.2.2.2.1 d.2.2.2.2.1 d.2.2.2.2.2.1 d.2.2.2.2.2.2.1 d.2.2.2.2.2.2.2.1
noncomputable def L30_7 (k : Nat) (j : Nat) (c : Int) (c1 : Int) (c2 : List (Int × Int)) (all : List Int) (from_ : Int) (pairs : List Int) (t24 : List Y1_0) (t25 : Int) (t26 : Int) : Option Y1_7 := iter (R := ((Int × Int × List (Int × Int)) × Bool × Unit) × Unit) c30_L7 (b30_7 k) j ((), (c, c1, c2, ()), all, from_, pairs, t24, t25, t26, ())
theorem L30_7_s (k : Nat) (j : Nat) (c : Int) (c1 : Int) (c2 : List (Int × Int)) (all : List Int) (from_ : Int) (pairs : List Int) (t24 : List Y1_0) (t25 : Int) (t26 : Int) : L30_7 k (j + 1) c c1 c2 all from_ pairs t24 t25 t26 = l30_7 k (L30_7 k j) c c1 c2 all from_ pairs t24 t25 t26 := iter_succ _ _ _ _
noncomputable def S30 (k : Nat) (l_ : List Y1_0) : Option Y1_7 :=
 (S33 k l_).bind fun q0 =>
 (bif !q0.1.1 then
  some (((0, 0, []), false, ()), ())
 else
  (S46 k l_).bind fun q1 =>
  (S47 k l_).bind fun q2 =>
  (S48 k q1.1.1).bind fun q3 =>
  L30_7 k k q3.1.1 0 ([] : List (Int × Int)) q1.1.1 0 q2.1.1 l_ (l_.length : Int) 0)
noncomputable def E30 : Env := tab.env (lk [(33, F33), (46, F46), (47, F47), (48, F48)]) (hintL [(2, 2)])
theorem E30_ok : EnvOK Try.prog E30 := envOK_of tabOK _ _ (allFn_lk (l := [(33, F33), (46, F46), (47, F47), (48, F48)]) ⟨ok33, ok46, ok47, ok48, trivial⟩)
noncomputable def B30 (k : Nat) : Tbl (RD R30 × MD P30) := (.loop 7 c30_L7 (b30_7 k) (fun g => .nil) .nil)
noncomputable def F30 : Fn := ⟨P30, R30, fun k x => S30 k x.1⟩
theorem ok30 : FnOK Try.prog 30 F30 := evalF_ok (E := E30) (T := B30) E30_ok mix Try.func30 rfl (by kernel_rfl) (by kernel_rfl) (fun k => by kernel_rfl) (fun k x => by kernel_rfl)
end Go.Proofs.Ythmicjldfdadjaa.Ab
