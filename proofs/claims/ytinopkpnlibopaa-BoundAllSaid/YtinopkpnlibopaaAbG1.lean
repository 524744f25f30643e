import Derived.Test.YtinopkpnlibopaaAbG0
/- Contracts, printed by this session's own program gen.py. -/
set_option linter.unusedVariables false
set_option linter.unusedSimpArgs false
set_option maxRecDepth 100000
namespace Go.Proofs.Ytinopkpnlibopaa.Ab
open Go.RowKit
abbrev Y1_0 : Ty := .sl 60 (.pair (.int .i64) (.pair (.int .i64) (.pair (.int .i64) (.int .i64))))
abbrev Y1_1 : Type := Int × Int × Int × Int
abbrev Y1_2 : Type := Int × Int × Int × (List Y1_1) × (List Y1_1) × List Y1_1
abbrev Y1_3 : Type := ((List Int) × Unit) × Unit
abbrev Y1_4 : Type := (List Y1_1) → (List Int) → (List Int) → (List ((PN Bool 24) × Int)) → (List (PN Bool 24)) → (List (PN Bool 24)) → Int → Int → Option (((List Int) × Bool × Unit) × Unit)
abbrev Y1_5 : Type := (Int × Unit) × Unit
abbrev Y1_6 : Type := (Bool × Unit) × Unit
abbrev Y1_7 : Type := ((Int × Int × List (Int × Int)) × Bool × Unit) × Unit
abbrev Y1_8 : Type := (List Int) → (List Y1_1) → Int → Int → Option Y1_3
abbrev Y1_9 : Ty := .pair (.int .i64) (.pair (.int .i64) (.pair (.int .i64) (.pair Y1_0 (.pair Y1_0 Y1_0))))
abbrev Y1_10 : Type := ((List Int) × Bool × Unit) × Unit
abbrev Y1_11 : Type := PN Bool 24
abbrev Y1_12 : Type := (Int × Bool × Unit) × Unit
abbrev Y1_13 : Ty := arrT 24 .bool
noncomputable abbrev P72 : List PT := [.val ⟨false, Y1_0, false⟩]
noncomputable abbrev R72 : List RT := [.val ⟨false, (.sl 3 (.int .i64)), true⟩, .val ⟨false, .bool, true⟩]
noncomputable abbrev c72_J8 : Cut := ⟨[1, 4, 5, 6, 7, 8, 9, 20, 21, 22], [.box 34 [.cell Y1_0], .own 3 (.int .i64), .own 3 (.int .i64), .mp 124 true Y1_13 false (.int .i64), .cell (.sl 122 Y1_13), .box 3 [.cell (.int .i64)], .box 122 [.cell .bool, .cell .bool, .cell .bool, .cell .bool, .cell .bool, .cell .bool, .cell .bool, .cell .bool, .cell .bool, .cell .bool, .cell .bool, .cell .bool, .cell .bool, .cell .bool, .cell .bool, .cell .bool, .cell .bool, .cell .bool, .cell .bool, .cell .bool, .cell .bool, .cell .bool, .cell .bool, .cell .bool], .cell (.sl 122 Y1_13), .cell (.int .i64), .cell (.int .i64)], [], 110⟩
noncomputable def j72_8 (k : Nat) (g3 : Y1_4) (l_2 : List Y1_1) (out1 : List Int) (open_1 : List Int) (same1 : List (Y1_11 × Int)) (all1 : List Y1_11) (i : Int) (x : Bool) (x1 : Bool) (x2 : Bool) (x3 : Bool) (x4 : Bool) (x5 : Bool) (x6 : Bool) (x7 : Bool) (x8 : Bool) (x9 : Bool) (x10 : Bool) (x11 : Bool) (x12 : Bool) (x13 : Bool) (x14 : Bool) (x15 : Bool) (x16 : Bool) (x17 : Bool) (x18 : Bool) (x19 : Bool) (x20 : Bool) (x21 : Bool) (x22 : Bool) (x23 : Bool) (t20_1 : List Y1_11) (t21_1 : Int) (t22_1 : Int) : Option Y1_10 :=
 ix l_2 i <|
 (bif (rd l_2 i (0, 0, 0, 0)).1 == 9 then
  (bif decide ((open_1.length : Int) ≥ 2) then
   some (([], false, ()), ())
  else
   (S93a k open_1 l_2 i).bind fun q1 =>
   (bif q1.1.1 then
    some (([], false, ()), ())
   else
    ap open_1 ([i] : List Int) 8 fun r2 =>
    g3 l_2 out1 r2 same1 all1 t20_1 t21_1 (IntKind.i64.wrap (t22_1 + 1))))
 else
  (bif (rd l_2 i (0, 0, 0, 0)).1 == 10 then
   (bif decide ((IntKind.i64.wrap ((open_1.length : Int) - 1)) < 0) then
    some (([], false, ()), ())
   else
    ix open_1 (IntKind.i64.wrap ((open_1.length : Int) - 1)) <|
    ix l_2 (rd open_1 (IntKind.i64.wrap ((open_1.length : Int) - 1)) 0) <|
    ix l_2 i <|
    (bif (rd l_2 (rd open_1 (IntKind.i64.wrap ((open_1.length : Int) - 1)) 0) (0, 0, 0, 0)).2.1 != (rd l_2 i (0, 0, 0, 0)).2.1 then
     some (([], false, ()), ())
    else
     ix open_1 (IntKind.i64.wrap ((open_1.length : Int) - 1)) <|
     ix all1 (rd open_1 (IntKind.i64.wrap ((open_1.length : Int) - 1)) 0) <|
     (bif (mget Y1_13 (.int .i64) (rd all1 (rd open_1 (IntKind.i64.wrap ((open_1.length : Int) - 1)) 0) (prep (α := Bool) 24 false)) same1 0) != (mget Y1_13 (.int .i64) (x, x1, x2, x3, x4, x5, x6, x7, x8, x9, x10, x11, x12, x13, x14, x15, x16, x17, x18, x19, x20, x21, x22, x23) same1 0) then
      some (([], false, ()), ())
     else
      ix open_1 (IntKind.i64.wrap ((open_1.length : Int) - 1)) <|
      ix out1 (rd open_1 (IntKind.i64.wrap ((open_1.length : Int) - 1)) 0) <|
      sx open_1 0 (IntKind.i64.wrap ((open_1.length : Int) - 1)) <|
      g3 l_2 (upd out1 (rd open_1 (IntKind.i64.wrap ((open_1.length : Int) - 1)) 0) i) (open_1.take (IntKind.i64.wrap ((open_1.length : Int) - 1)).toNat) same1 all1 t20_1 t21_1 (IntKind.i64.wrap (t22_1 + 1)))))
  else
   g3 l_2 out1 open_1 same1 all1 t20_1 t21_1 (IntKind.i64.wrap (t22_1 + 1))))
noncomputable abbrev c72_L3 : Cut := ⟨[1, 4, 5, 6, 7, 20, 21, 22], [.box 34 [.cell Y1_0], .own 3 (.int .i64), .own 3 (.int .i64), .mp 124 true Y1_13 false (.int .i64), .cell (.sl 122 Y1_13), .cell (.sl 122 Y1_13), .cell (.int .i64), .cell (.int .i64)], [], 110⟩
noncomputable def l72_3 (k : Nat) (g3 : Y1_4) (l_1 : List Y1_1) (out : List Int) (open_ : List Int) (same : List (Y1_11 × Int)) (all : List Y1_11) (t20 : List Y1_11) (t21 : Int) (t22 : Int) : Option Y1_10 :=
 (bif decide (t22 < t21) then
  ix t20 t22 <|
  (bif !(mhas Y1_13 (.int .i64) (rd t20 t22 (prep (α := Bool) 24 false)) same) then
   j72_8 k g3 l_1 out open_ (updD Y1_13 (.int .i64) (rd t20 t22 (prep (α := Bool) 24 false)) t22 same) all t22 (rd t20 t22 (prep (α := Bool) 24 false)).1 (rd t20 t22 (prep (α := Bool) 24 false)).2.1 (rd t20 t22 (prep (α := Bool) 24 false)).2.2.1 (rd t20 t22 (prep (α := Bool) 24 false)).2.2.2.1 (rd t20 t22 (prep (α := Bool) 24 false)).2.2.2.2.1 (rd t20 t22 (prep (α := Bool) 24 false)).2.2.2.2.2.1 (rd t20 t22 (prep (α := Bool) 24 false)).2.2.2.2.2.2.1 (rd t20 t22 (prep (α := Bool) 24 false)).2.2.2.2.2.2.2.1 (rd t20 t22 (prep (α := Bool) 24 false)).2.2.2.2.2.2.2.2.1 (rd t20 t22 (prep (α := Bool) 24 false)).2.2.2.2.2.2.2.2.2.1 (rd t20 t22 (prep (α := Bool) 24 false)).2.2.2.2.2.2.2.2.2.2.1 (rd t20 t22 (prep (α := Bool) 24 false)).2.2.2.2.2.2.2.2.2.2.2.1 (rd t20 t22 (prep (α := Bool) 24 false)).2.2.2.2.2.2.2.2.2.2.2.2.1 (rd t20 t22 (prep (α := Bool) 24 false)).2.2.2.2.2.2.2.2.2.2.2.2.2.1 (rd t20 t22 (prep (α := Bool) 24 false)).2.2.2.2.2.2.2.2.2.2.2.2.2.2.1 (rd t20 t22 (prep (α := Bool) 24 false)).2.2.2.2.2.2.2.2.2.2.2.2.2.2.2.1 (rd t20 t22 (prep (α := Bool) 24 false)).2.2.2.2.2.2.2.2.2.2.2.2.2.2.2.2.1 (rd t20 t22 (prep (α := Bool) 24 false)).2.2.2.2.2.2.2.2.2.2.2.2.2.2.2.2.2.1 (rd t20 t22 (prep (α := Bool) 24 false)).2.2.2.2.2.2.2.2.2.2.2.2.2.2.2.2.2.2.1 (rd t20 t22 (prep (α := Bool) 24 false)).2.2.2.2.2.2.2.2.2.2.2.2.2.2.2.2.2.2.2.1 (rd t20 t22 (prep (α := Bool) 24 false)).2.2.2.2.2.2.2.2.2.2.2.2.2.2.2.2.2.2.2.2.1 (rd t20 t22 (prep (α := Bool) 24 false)).2.2.2.2.2.2.2.2.2.2.2.2.2.2.2.2.2.2.2.2.2.1 (rd t20 t22 (prep (α := Bool) 24 false)).2.2.2.2.2.2.2.2.2.2.2.2.2.2.2.2.2.2.2.2.2.2.1 (rd t20 t22 (prep (α := Bool) 24 false)).2.2.2.2.2.2.2.2.2.2.2.2.2.2.2.2.2.2.2.2.2.2.2 t20 t21 t22
  else
   j72_8 k g3 l_1 out open_ same all t22 (rd t20 t22 (prep (α := Bool) 24 false)).1 (rd t20 t22 (prep (α := Bool) 24 false)).2.1 (rd t20 t22 (prep (α := Bool) 24 false)).2.2.1 (rd t20 t22 (prep (α := Bool) 24 false)).2.2.2.1 (rd t20 t22 (prep (α := Bool) 24 false)).2.2.2.2.1 (rd t20 t22 (prep (α := Bool) 24 false)).2.2.2.2.2.1 (rd t20 t22 (prep (α := Bool) 24 false)).2.2.2.2.2.2.1 (rd t20 t22 (prep (α := Bool) 24 false)).2.2.2.2.2.2.2.1 (rd t20 t22 (prep (α := Bool) 24 false)).2.2.2.2.2.2.2.2.1 (rd t20 t22 (prep (α := Bool) 24 false)).2.2.2.2.2.2.2.2.2.1 (rd t20 t22 (prep (α := Bool) 24 false)).2.2.2.2.2.2.2.2.2.2.1 (rd t20 t22 (prep (α := Bool) 24 false)).2.2.2.2.2.2.2.2.2.2.2.1 (rd t20 t22 (prep (α := Bool) 24 false)).2.2.2.2.2.2.2.2.2.2.2.2.1 (rd t20 t22 (prep (α := Bool) 24 false)).2.2.2.2.2.2.2.2.2.2.2.2.2.1 (rd t20 t22 (prep (α := Bool) 24 false)).2.2.2.2.2.2.2.2.2.2.2.2.2.2.1 (rd t20 t22 (prep (α := Bool) 24 false)).2.2.2.2.2.2.2.2.2.2.2.2.2.2.2.1 (rd t20 t22 (prep (α := Bool) 24 false)).2.2.2.2.2.2.2.2.2.2.2.2.2.2.2.2.1 (rd t20 t22 (prep (α := Bool) 24 false)).2.2.2.2.2.2.2.2.2.2.2.2.2.2.2.2.2.1 (rd t20 t22 (prep (α := Bool) 24 false)).2.2.2.2.2.2.2.2.2.2.2.2.2.2.2.2.2.2.1 (rd t20 t22 (prep (α := Bool) 24 false)).2.2.2.2.2.2.2.2.2.2.2.2.2.2.2.2.2.2.2.1 (rd t20 t22 (prep (α := Bool) 24 false)).2.2.2.2.2.2.2.2.2.2.2.2.2.2.2.2.2.2.2.2.1 (rd t20 t22 (prep (α := Bool) 24 false)).2.2.2.2.2.2.2.2.2.2.2.2.2.2.2.2.2.2.2.2.2.1 (rd t20 t22 (prep (α := Bool) 24 false)).2.2.2.2.2.2.2.2.2.2.2.2.2.2.2.2.2.2.2.2.2.2.1 (rd t20 t22 (prep (α := Bool) 24 false)).2.2.2.2.2.2.2.2.2.2.2.2.2.2.2.2.2.2.2.2.2.2.2 t20 t21 t22)
 else
  (bif decide ((open_.length : Int) > 0) then
   some (([], false, ()), ())
  else
   some ((out, true, ()), ())))
noncomputable def b72_3 (k : Nat) (g : ((Unit) × ((List Y1_1) × Unit) × (List Int) × (List Int) × (List (Y1_11 × Int)) × (List Y1_11) × (List Y1_11) × Int × Int × Unit) → Option Y1_10) (d : (Unit) × ((List Y1_1) × Unit) × (List Int) × (List Int) × (List (Y1_11 × Int)) × (List Y1_11) × (List Y1_11) × Int × Int × Unit) : Option Y1_10 := l72_3 k (fun l_1 out open_ same all t20 t21 t22 => g ((), (l_1, ()), out, open_, same, all, t20, t21, t22, ())) d.2.1.1 d.2.2.1 d.2.2.2.1 d.2.2.2.2.1 d.2.2.2.2.2.1 d.2.2.2.2.2.2.1 d.2.2.2.2.2.2.2.1 d.2.2.2.2.2.2.2.2.1
noncomputable def L72_3 (k : Nat) (j : Nat) (l_1 : List Y1_1) (out : List Int) (open_ : List Int) (same : List (Y1_11 × Int)) (all : List Y1_11) (t20 : List Y1_11) (t21 : Int) (t22 : Int) : Option Y1_10 := iter (R := ((List Int) × Bool × Unit) × Unit) c72_L3 (b72_3 k) j ((), (l_1, ()), out, open_, same, all, t20, t21, t22, ())
theorem L72_3_s (k : Nat) (j : Nat) (l_1 : List Y1_1) (out : List Int) (open_ : List Int) (same : List (Y1_11 × Int)) (all : List Y1_11) (t20 : List Y1_11) (t21 : Int) (t22 : Int) : L72_3 k (j + 1) l_1 out open_ same all t20 t21 t22 = l72_3 k (L72_3 k j) l_1 out open_ same all t20 t21 t22 := iter_succ _ _ _ _
noncomputable def S72 (k : Nat) (l_ : List Y1_1) : Option Y1_10 :=
 mk (l_.length : Int) (l_.length : Int) 8 <|
 (S92 k l_).bind fun q0 =>
 L72_3 k k l_ (List.replicate (l_.length : Int).toNat (0 : Int)) ([] : List Int) ([] : List (Y1_11 × Int)) q0.1.1 q0.1.1 (q0.1.1.length : Int) 0
noncomputable def E72 : Env := tab.env (lk [(92, F92), (93, F93a)]) (hintL [(104, 1)])
theorem E72_ok : EnvOK Try.prog E72 := envOK_of tabOK _ _ (allFn_lk (l := [(92, F92), (93, F93a)]) ⟨ok92, ok93a, trivial⟩)
noncomputable def B72 (k : Nat) : Tbl (RD R72 × MD P72) := (.loop 3 c72_L3 (b72_3 k) (fun g => (fun (g3 : Y1_4) => (.join 8 c72_J8 (fun d => j72_8 k g3 d.2.1.1 d.2.2.1 d.2.2.2.1 d.2.2.2.2.1 d.2.2.2.2.2.1 d.2.2.2.2.2.2.1.1 d.2.2.2.2.2.2.2.1.1 d.2.2.2.2.2.2.2.1.2.1 d.2.2.2.2.2.2.2.1.2.2.1 d.2.2.2.2.2.2.2.1.2.2.2.1 d.2.2.2.2.2.2.2.1.2.2.2.2.1 d.2.2.2.2.2.2.2.1.2.2.2.2.2.1 d.2.2.2.2.2.2.2.1.2.2.2.2.2.2.1 d.2.2.2.2.2.2.2.1.2.2.2.2.2.2.2.1 d.2.2.2.2.2.2.2.1.2.2.2.2.2.2.2.2.1 d.2.2.2.2.2.2.2.1.2.2.2.2.2.2.2.2.2.1 d.2.2.2.2.2.2.2.1.2.2.2.2.2.2.2.2.2.2.1 d.2.2.2.2.2.2.2.1.2.2.2.2.2.2.2.2.2.2.2.1 d.2.2.2.2.2.2.2.1.2.2.2.2.2.2.2.2.2.2.2.2.1 d.2.2.2.2.2.2.2.1.2.2.2.2.2.2.2.2.2.2.2.2.2.1 d.2.2.2.2.2.2.2.1.2.2.2.2.2.2.2.2.2.2.2.2.2.2.1 d.2.2.2.2.2.2.2.1.2.2.2.2.2.2.2.2.2.2.2.2.2.2.2.1 d.2.2.2.2.2.2.2.1.2.2.2.2.2.2.2.2.2.2.2.2.2.2.2.2.1 d.2.2.2.2.2.2.2.1.2.2.2.2.2.2.2.2.2.2.2.2.2.2.2.2.2.1 d.2.2.2.2.2.2.2.1.2.2.2.2.2.2.2.2.2.2.2.2.2.2.2.2.2.2.1 d.2.2.2.2.2.2.2.1.2.2.2.2.2.2.2.2.2.2.2.2.2.2.2.2.2.2.2.1 d.2.2.2.2.2.2.2.1.2.2.2.2.2.2.2.2.2.2.2.2.2.2.2.2.2.2.2.2.1 d.2.2.2.2.2.2.2.1.2.2.2.2.2.2.2.2.2.2.2.2.2.2.2.2.2.2.2.2.2.1 d.2.2.2.2.2.2.2.1.2.2.2.2.2.2.2.2.2.2.2.2.2.2.2.2.2.2.2.2.2.2.1 d.2.2.2.2.2.2.2.1.2.2.2.2.2.2.2.2.2.2.2.2.2.2.2.2.2.2.2.2.2.2.2.1 d.2.2.2.2.2.2.2.2.1 d.2.2.2.2.2.2.2.2.2.1 d.2.2.2.2.2.2.2.2.2.2.1) .nil)) (fun l_1 out open_ same all t20 t21 t22 => g ((), (l_1, ()), out, open_, same, all, t20, t21, t22, ()))) .nil)
noncomputable def F72 : Fn := ⟨P72, R72, fun k x => S72 k x.1⟩
theorem ok72 : FnOK Try.prog 72 F72 := evalF_ok (E := E72) (T := B72) E72_ok mix Try.func72 rfl (by kernel_rfl) (by kernel_rfl) (fun k => by kernel_rfl) (fun k x => by kernel_rfl)
noncomputable abbrev P94 : List PT := [.val ⟨false, (.int .i64), false⟩, .pv (.ref (.int .i64))]
noncomputable abbrev R94 : List RT := [.val ⟨false, .bool, true⟩]
noncomputable def S94 (k : Nat) (end_ : Int) (x1 : Int) : Option Y1_6 :=
 some ((decide (end_ > x1), ()), ())
noncomputable def E94 : Env := tab.env (lk []) (hintL [])
theorem E94_ok : EnvOK Try.prog E94 := envOK_of tabOK _ _ (fun f F h => by cases h)
noncomputable def B94 (k : Nat) : Tbl (RD R94 × MD P94) := .nil
noncomputable def F94 : Fn := ⟨P94, R94, fun k x => S94 k x.1 x.2.1⟩
theorem ok94 : FnOK Try.prog 94 F94 := evalF_ok (E := E94) (T := B94) E94_ok mix Try.func94 rfl (by kernel_rfl) (by kernel_rfl) (fun k => by kernel_rfl) (fun k x => by kernel_rfl)
noncomputable abbrev P107b : List PT := [.val ⟨false, (.sl 3 (.int .i64)), false⟩, .pv (.clo 94 [.ref (.int .i64)])]
noncomputable abbrev R107b : List RT := [.val ⟨false, (.int .i64), true⟩]
noncomputable abbrev c107b_L2 : Cut := ⟨[0, 1, 7, 8], [.cell (.sl 3 (.int .i64)), .clo 94 [.ref (.int .i64)], .cell (.int .i64), .cell (.int .i64)], [], 19⟩
noncomputable def l107b_2 (k : Nat) (g2 : (List Int) → Int → Int → Int → Option Y1_5) (s1 : List Int) (f1 : Int) (t7 : Int) (t8 : Int) : Option Y1_5 :=
 (bif decide (t8 < t7) then
  ix s1 t8 <|
  (S94 k (rd s1 t8 0) f1).bind fun q0 =>
  (bif q0.1.1 then
   some ((t8, ()), ())
  else
   g2 s1 f1 t7 (IntKind.i64.wrap (t8 + 1)))
 else
  some (((-1), ()), ()))
noncomputable def b107b_2 (k : Nat) (g : ((Unit) × (List Int) × (Int × Unit) × Int × Int × Unit) → Option Y1_5) (d : (Unit) × (List Int) × (Int × Unit) × Int × Int × Unit) : Option Y1_5 := l107b_2 k (fun s1 f1 t7 t8 => g ((), s1, (f1, ()), t7, t8, ())) d.2.1 d.2.2.1.1 d.2.2.2.1 d.2.2.2.2.1
noncomputable def L107b_2 (k : Nat) (j : Nat) (s1 : List Int) (f1 : Int) (t7 : Int) (t8 : Int) : Option Y1_5 := iter (R := (Int × Unit) × Unit) c107b_L2 (b107b_2 k) j ((), s1, (f1, ()), t7, t8, ())
theorem L107b_2_s (k : Nat) (j : Nat) (s1 : List Int) (f1 : Int) (t7 : Int) (t8 : Int) : L107b_2 k (j + 1) s1 f1 t7 t8 = l107b_2 k (L107b_2 k j) s1 f1 t7 t8 := iter_succ _ _ _ _
noncomputable def S107b (k : Nat) (s : List Int) (f : Int) : Option Y1_5 :=
 L107b_2 k k s f (s.length : Int) 0
noncomputable def E107b : Env := tab.env (lk [(94, F94)]) (hintL [])
theorem E107b_ok : EnvOK Try.prog E107b := envOK_of tabOK _ _ (allFn_lk (l := [(94, F94)]) ⟨ok94, trivial⟩)
noncomputable def B107b (k : Nat) : Tbl (RD R107b × MD P107b) := (.loop 2 c107b_L2 (b107b_2 k) (fun g => .nil) .nil)
noncomputable def F107b : Fn := ⟨P107b, R107b, fun k x => S107b k x.1 x.2.1.1⟩
theorem ok107b : FnOK Try.prog 107 F107b := evalF_ok (E := E107b) (T := B107b) E107b_ok mix Try.func107 rfl (by kernel_rfl) (by kernel_rfl) (fun k => by kernel_rfl) (fun k x => by kernel_rfl)
noncomputable abbrev P93b : List PT := [.val ⟨false, (.sl 3 (.int .i64)), false⟩, .pv (.clo 94 [.ref (.int .i64)])]
noncomputable abbrev R93b : List RT := [.val ⟨false, .bool, true⟩]
noncomputable def S93b (k : Nat) (s : List Int) (f : Int) : Option Y1_6 :=
 (S107b k s f).bind fun q0 =>
 some ((decide (q0.1.1 ≥ 0), ()), ())
noncomputable def E93b : Env := tab.env (lk [(107, F107b)]) (hintL [])
theorem E93b_ok : EnvOK Try.prog E93b := envOK_of tabOK _ _ (allFn_lk (l := [(107, F107b)]) ⟨ok107b, trivial⟩)
noncomputable def B93b (k : Nat) : Tbl (RD R93b × MD P93b) := .nil
noncomputable def F93b : Fn := ⟨P93b, R93b, fun k x => S93b k x.1 x.2.1.1⟩
theorem ok93b : FnOK Try.prog 93 F93b := evalF_ok (E := E93b) (T := B93b) E93b_ok mix Try.func93 rfl (by kernel_rfl) (by kernel_rfl) (fun k => by kernel_rfl) (fun k x => by kernel_rfl)
noncomputable abbrev P64 : List PT := [.val ⟨false, Y1_0, false⟩]
noncomputable abbrev R64 : List RT := [.val ⟨false, .bool, true⟩]
noncomputable abbrev c64_L11 : Cut := ⟨[4, 6, 42, 43, 44], [.own 3 (.int .i64), .own 122 Y1_13, .cell Y1_0, .cell (.int .i64), .cell (.int .i64)], [], 66⟩
noncomputable def l64_11 (k : Nat) (g11 : (List Int) → (List Y1_11) → (List Y1_1) → Int → Int → Option Y1_6) (pairs : List Int) (all : List Y1_11) (t42 : List Y1_1) (t43 : Int) (t44 : Int) : Option Y1_6 :=
 (bif decide (t44 < t43) then
  ix t42 t44 <|
  (bif (rd t42 t44 (0, 0, 0, 0)).1 != 11 then
   g11 pairs all t42 t43 (IntKind.i64.wrap (t44 + 1))
  else
   ix all t44 <|
   (bif !(beqD Y1_13 (rd all t44 (prep (α := Bool) 24 false)) (false, false, false, false, false, false, false, false, false, false, false, false, false, false, false, false, false, false, false, false, false, false, false, false)) then
    some ((false, ()), ())
   else
    sx pairs 0 t44 <|
    (S93b k (sub pairs 0 t44) t44).bind fun q5 =>
    (bif q5.1.1 then
     some ((false, ()), ())
    else
     g11 pairs all t42 t43 (IntKind.i64.wrap (t44 + 1)))))
 else
  some ((true, ()), ()))
noncomputable def b64_11 (k : Nat) (g : ((Unit) × (List Int) × (List Y1_11) × (List Y1_1) × Int × Int × Unit) → Option Y1_6) (d : (Unit) × (List Int) × (List Y1_11) × (List Y1_1) × Int × Int × Unit) : Option Y1_6 := l64_11 k (fun pairs all t42 t43 t44 => g ((), pairs, all, t42, t43, t44, ())) d.2.1 d.2.2.1 d.2.2.2.1 d.2.2.2.2.1 d.2.2.2.2.2.1
noncomputable def L64_11 (k : Nat) (j : Nat) (pairs : List Int) (all : List Y1_11) (t42 : List Y1_1) (t43 : Int) (t44 : Int) : Option Y1_6 := iter (R := (Bool × Unit) × Unit) c64_L11 (b64_11 k) j ((), pairs, all, t42, t43, t44, ())
theorem L64_11_s (k : Nat) (j : Nat) (pairs : List Int) (all : List Y1_11) (t42 : List Y1_1) (t43 : Int) (t44 : Int) : L64_11 k (j + 1) pairs all t42 t43 t44 = l64_11 k (L64_11 k j) pairs all t42 t43 t44 := iter_succ _ _ _ _
noncomputable def S64 (k : Nat) (l_ : List Y1_1) : Option Y1_6 :=
 (bif decide ((l_.length : Int) < 1) then
  some ((false, ()), ())
 else
  (bif decide ((l_.length : Int) > 24) then
   some ((false, ()), ())
  else
   (S79 k l_).bind fun q0 =>
   (bif q0.1.1 then
    some ((false, ()), ())
   else
    (S89a k l_).bind fun q1 =>
    (bif q1.1.1 != (IntKind.i64.wrap ((l_.length : Int) - 1)) then
     some ((false, ()), ())
    else
     (S91 k l_).bind fun q2 =>
     (bif !q2.1.1 then
      some ((false, ()), ())
     else
      (S72 k l_).bind fun q3 =>
      (bif !q3.1.2.1 then
       some ((false, ()), ())
      else
       (S92 k l_).bind fun q4 =>
       L64_11 k k q3.1.1 q4.1.1 l_ (l_.length : Int) 0))))))
noncomputable def E64 : Env := tab.env (lk [(72, F72), (79, F79), (89, F89a), (91, F91), (92, F92), (93, F93b)]) (hintL [])
theorem E64_ok : EnvOK Try.prog E64 := envOK_of tabOK _ _ (allFn_lk (l := [(72, F72), (79, F79), (89, F89a), (91, F91), (92, F92), (93, F93b)]) ⟨ok72, ok79, ok89a, ok91, ok92, ok93b, trivial⟩)
noncomputable def B64 (k : Nat) : Tbl (RD R64 × MD P64) := (.loop 11 c64_L11 (b64_11 k) (fun g => .nil) .nil)
noncomputable def F64 : Fn := ⟨P64, R64, fun k x => S64 k x.1⟩
theorem ok64 : FnOK Try.prog 64 F64 := evalF_ok (E := E64) (T := B64) E64_ok mix Try.func64 rfl (by kernel_rfl) (by kernel_rfl) (fun k => by kernel_rfl) (fun k x => by kernel_rfl)
noncomputable abbrev P65 : List PT := [.val ⟨false, Y1_0, false⟩]
noncomputable abbrev R65 : List RT := [.val ⟨false, .bool, true⟩]
noncomputable def S65 (k : Nat) (l_ : List Y1_1) : Option Y1_6 :=
 (bif (l_.length : Int) == 0 then
  some ((true, ()), ())
 else
  (S64 k l_).bind fun q0 =>
  some ((q0.1.1, ()), ()))
noncomputable def E65 : Env := tab.env (lk [(64, F64)]) (hintL [])
theorem E65_ok : EnvOK Try.prog E65 := envOK_of tabOK _ _ (allFn_lk (l := [(64, F64)]) ⟨ok64, trivial⟩)
noncomputable def B65 (k : Nat) : Tbl (RD R65 × MD P65) := .nil
noncomputable def F65 : Fn := ⟨P65, R65, fun k x => S65 k x.1⟩
theorem ok65 : FnOK Try.prog 65 F65 := evalF_ok (E := E65) (T := B65) E65_ok mix Try.func65 rfl (by kernel_rfl) (by kernel_rfl) (fun k => by kernel_rfl) (fun k x => by kernel_rfl)
noncomputable abbrev P95 : List PT := [.val ⟨true, (.pair (.int .i64) (.pair (.int .i64) (.pair (.int .i64) (.int .i64)))), false⟩]
noncomputable abbrev R95 : List RT := [.val ⟨false, .bool, true⟩]
noncomputable def S95 (k : Nat) (i : Int × Int × Int × Int) : Option Y1_6 :=
 some ((i.1 == 9, ()), ())
noncomputable def E95 : Env := tab.env (lk []) (hintL [])
theorem E95_ok : EnvOK Try.prog E95 := envOK_of tabOK _ _ (fun f F h => by cases h)
noncomputable def B95 (k : Nat) : Tbl (RD R95 × MD P95) := .nil
noncomputable def F95 : Fn := ⟨P95, R95, fun k x => S95 k x.1⟩
theorem ok95 : FnOK Try.prog 95 F95 := evalF_ok (E := E95) (T := B95) E95_ok mix Try.func95 rfl (by kernel_rfl) (by kernel_rfl) (fun k => by kernel_rfl) (fun k x => by kernel_rfl)
noncomputable abbrev P89b : List PT := [.val ⟨false, Y1_0, false⟩, .pv (.clo 95 [])]
noncomputable abbrev R89b : List RT := [.val ⟨false, (.int .i64), true⟩]
noncomputable abbrev c89b_L2 : Cut := ⟨[0, 1, 7, 8], [.cell Y1_0, .clo 95 [], .cell (.int .i64), .cell (.int .i64)], [], 19⟩
noncomputable def l89b_2 (k : Nat) (g2 : (List Y1_1) → Int → Int → Option Y1_5) (s1 : List Y1_1) (t7 : Int) (t8 : Int) : Option Y1_5 :=
 (bif decide (t8 < t7) then
  ix s1 t8 <|
  (S95 k (rd s1 t8 (0, 0, 0, 0))).bind fun q0 =>
  (bif q0.1.1 then
   some ((t8, ()), ())
  else
   g2 s1 t7 (IntKind.i64.wrap (t8 + 1)))
 else
  some (((-1), ()), ()))
noncomputable def b89b_2 (k : Nat) (g : ((Unit) × (List Y1_1) × Unit × Int × Int × Unit) → Option Y1_5) (d : (Unit) × (List Y1_1) × Unit × Int × Int × Unit) : Option Y1_5 := l89b_2 k (fun s1 t7 t8 => g ((), s1, (), t7, t8, ())) d.2.1 d.2.2.2.1 d.2.2.2.2.1
noncomputable def L89b_2 (k : Nat) (j : Nat) (s1 : List Y1_1) (t7 : Int) (t8 : Int) : Option Y1_5 := iter (R := (Int × Unit) × Unit) c89b_L2 (b89b_2 k) j ((), s1, (), t7, t8, ())
theorem L89b_2_s (k : Nat) (j : Nat) (s1 : List Y1_1) (t7 : Int) (t8 : Int) : L89b_2 k (j + 1) s1 t7 t8 = l89b_2 k (L89b_2 k j) s1 t7 t8 := iter_succ _ _ _ _
noncomputable def S89b (k : Nat) (s : List Y1_1) : Option Y1_5 :=
 L89b_2 k k s (s.length : Int) 0
noncomputable def E89b : Env := tab.env (lk [(95, F95)]) (hintL [])
theorem E89b_ok : EnvOK Try.prog E89b := envOK_of tabOK _ _ (allFn_lk (l := [(95, F95)]) ⟨ok95, trivial⟩)
noncomputable def B89b (k : Nat) : Tbl (RD R89b × MD P89b) := (.loop 2 c89b_L2 (b89b_2 k) (fun g => .nil) .nil)
noncomputable def F89b : Fn := ⟨P89b, R89b, fun k x => S89b k x.1⟩
theorem ok89b : FnOK Try.prog 89 F89b := evalF_ok (E := E89b) (T := B89b) E89b_ok mix Try.func89 rfl (by kernel_rfl) (by kernel_rfl) (fun k => by kernel_rfl) (fun k x => by kernel_rfl)
noncomputable abbrev P79a : List PT := [.val ⟨false, Y1_0, false⟩, .pv (.clo 95 [])]
noncomputable abbrev R79a : List RT := [.val ⟨false, .bool, true⟩]
noncomputable def S79a (k : Nat) (s : List Y1_1) : Option Y1_6 :=
 (S89b k s).bind fun q0 =>
 some ((decide (q0.1.1 ≥ 0), ()), ())
noncomputable def E79a : Env := tab.env (lk [(89, F89b)]) (hintL [])
theorem E79a_ok : EnvOK Try.prog E79a := envOK_of tabOK _ _ (allFn_lk (l := [(89, F89b)]) ⟨ok89b, trivial⟩)
noncomputable def B79a (k : Nat) : Tbl (RD R79a × MD P79a) := .nil
noncomputable def F79a : Fn := ⟨P79a, R79a, fun k x => S79a k x.1⟩
theorem ok79a : FnOK Try.prog 79 F79a := evalF_ok (E := E79a) (T := B79a) E79a_ok mix Try.func79 rfl (by kernel_rfl) (by kernel_rfl) (fun k => by kernel_rfl) (fun k x => by kernel_rfl)
noncomputable abbrev P66 : List PT := [.val ⟨false, Y1_0, false⟩]
noncomputable abbrev R66 : List RT := [.val ⟨false, .bool, true⟩]
noncomputable def S66 (k : Nat) (l_ : List Y1_1) : Option Y1_6 :=
 (S79a k l_).bind fun q0 =>
 some ((q0.1.1, ()), ())
noncomputable def E66 : Env := tab.env (lk [(79, F79a)]) (hintL [])
theorem E66_ok : EnvOK Try.prog E66 := envOK_of tabOK _ _ (allFn_lk (l := [(79, F79a)]) ⟨ok79a, trivial⟩)
noncomputable def B66 (k : Nat) : Tbl (RD R66 × MD P66) := .nil
noncomputable def F66 : Fn := ⟨P66, R66, fun k x => S66 k x.1⟩
theorem ok66 : FnOK Try.prog 66 F66 := evalF_ok (E := E66) (T := B66) E66_ok mix Try.func66 rfl (by kernel_rfl) (by kernel_rfl) (fun k => by kernel_rfl) (fun k x => by kernel_rfl)
noncomputable abbrev P76 : List PT := [.val ⟨false, (.int .i64), false⟩]
noncomputable abbrev R76 : List RT := [.val ⟨false, (.int .u64), true⟩]
noncomputable def S76 (k : Nat) (v : Int) : Option Y1_5 :=
 (bif decide (v < 0) then
  some ((IntKind.u64.wrap (0 - (IntKind.u64.wrap v)), ()), ())
 else
  some ((IntKind.u64.wrap v, ()), ()))
noncomputable def E76 : Env := tab.env (lk []) (hintL [])
theorem E76_ok : EnvOK Try.prog E76 := envOK_of tabOK _ _ (fun f F h => by cases h)
noncomputable def B76 (k : Nat) : Tbl (RD R76 × MD P76) := .nil
noncomputable def F76 : Fn := ⟨P76, R76, fun k x => S76 k x.1⟩
theorem ok76 : FnOK Try.prog 76 F76 := evalF_ok (E := E76) (T := B76) E76_ok mix Try.func76 rfl (by kernel_rfl) (by kernel_rfl) (fun k => by kernel_rfl) (fun k x => by kernel_rfl)
noncomputable abbrev P75 : List PT := [.val ⟨false, (.int .u64), false⟩, .val ⟨false, (.int .u64), false⟩]
noncomputable abbrev R75 : List RT := [.val ⟨false, (.int .u64), true⟩, .val ⟨false, .bool, true⟩]
noncomputable def S75 (k : Nat) (a : Int) (b : Int) : Option Y1_12 :=
 (bif decide ((ishr .u64 a 32) > 0) then
  (bif decide ((ishr .u64 b 32) > 0) then
   some ((0, false, ()), ())
  else
   (bif decide ((ishr .u64 (ior .u64 (IntKind.u64.wrap ((ishr .u64 a 32) * (IntKind.u64.wrap (IntKind.u32.wrap b)))) (IntKind.u64.wrap ((IntKind.u64.wrap (IntKind.u32.wrap a)) * (ishr .u64 b 32)))) 32) > 0) then
    some ((0, false, ()), ())
   else
    some ((IntKind.u64.wrap ((IntKind.u64.wrap ((IntKind.u64.wrap (IntKind.u32.wrap a)) * (IntKind.u64.wrap (IntKind.u32.wrap b)))) + (ishl .u64 (ior .u64 (IntKind.u64.wrap ((ishr .u64 a 32) * (IntKind.u64.wrap (IntKind.u32.wrap b)))) (IntKind.u64.wrap ((IntKind.u64.wrap (IntKind.u32.wrap a)) * (ishr .u64 b 32)))) 32)), decide ((IntKind.u64.wrap ((IntKind.u64.wrap ((IntKind.u64.wrap (IntKind.u32.wrap a)) * (IntKind.u64.wrap (IntKind.u32.wrap b)))) + (ishl .u64 (ior .u64 (IntKind.u64.wrap ((ishr .u64 a 32) * (IntKind.u64.wrap (IntKind.u32.wrap b)))) (IntKind.u64.wrap ((IntKind.u64.wrap (IntKind.u32.wrap a)) * (ishr .u64 b 32)))) 32))) ≥ (IntKind.u64.wrap ((IntKind.u64.wrap (IntKind.u32.wrap a)) * (IntKind.u64.wrap (IntKind.u32.wrap b))))), ()), ())))
 else
  (bif decide ((ishr .u64 (ior .u64 (IntKind.u64.wrap ((ishr .u64 a 32) * (IntKind.u64.wrap (IntKind.u32.wrap b)))) (IntKind.u64.wrap ((IntKind.u64.wrap (IntKind.u32.wrap a)) * (ishr .u64 b 32)))) 32) > 0) then
   some ((0, false, ()), ())
  else
   some ((IntKind.u64.wrap ((IntKind.u64.wrap ((IntKind.u64.wrap (IntKind.u32.wrap a)) * (IntKind.u64.wrap (IntKind.u32.wrap b)))) + (ishl .u64 (ior .u64 (IntKind.u64.wrap ((ishr .u64 a 32) * (IntKind.u64.wrap (IntKind.u32.wrap b)))) (IntKind.u64.wrap ((IntKind.u64.wrap (IntKind.u32.wrap a)) * (ishr .u64 b 32)))) 32)), decide ((IntKind.u64.wrap ((IntKind.u64.wrap ((IntKind.u64.wrap (IntKind.u32.wrap a)) * (IntKind.u64.wrap (IntKind.u32.wrap b)))) + (ishl .u64 (ior .u64 (IntKind.u64.wrap ((ishr .u64 a 32) * (IntKind.u64.wrap (IntKind.u32.wrap b)))) (IntKind.u64.wrap ((IntKind.u64.wrap (IntKind.u32.wrap a)) * (ishr .u64 b 32)))) 32))) ≥ (IntKind.u64.wrap ((IntKind.u64.wrap (IntKind.u32.wrap a)) * (IntKind.u64.wrap (IntKind.u32.wrap b))))), ()), ())))
noncomputable def E75 : Env := tab.env (lk []) (hintL [])
theorem E75_ok : EnvOK Try.prog E75 := envOK_of tabOK _ _ (fun f F h => by cases h)
noncomputable def B75 (k : Nat) : Tbl (RD R75 × MD P75) := .nil
noncomputable def F75 : Fn := ⟨P75, R75, fun k x => S75 k x.1 x.2.1⟩
theorem ok75 : FnOK Try.prog 75 F75 := evalF_ok (E := E75) (T := B75) E75_ok mix Try.func75 rfl (by kernel_rfl) (by kernel_rfl) (fun k => by kernel_rfl) (fun k x => by kernel_rfl)
noncomputable abbrev P77 : List PT := [.val ⟨false, .bool, false⟩]
noncomputable abbrev R77 : List RT := [.val ⟨false, (.int .i64), true⟩, .val ⟨false, .bool, true⟩]
noncomputable def S77 (k : Nat) (below : Bool) : Option Y1_12 :=
 (bif below then
  some (((-9223372036854775808), false, ()), ())
 else
  some ((9223372036854775807, false, ()), ()))
noncomputable def E77 : Env := tab.env (lk []) (hintL [])
theorem E77_ok : EnvOK Try.prog E77 := envOK_of tabOK _ _ (fun f F h => by cases h)
noncomputable def B77 (k : Nat) : Tbl (RD R77 × MD P77) := .nil
noncomputable def F77 : Fn := ⟨P77, R77, fun k x => S77 k x.1⟩
theorem ok77 : FnOK Try.prog 77 F77 := evalF_ok (E := E77) (T := B77) E77_ok mix Try.func77 rfl (by kernel_rfl) (by kernel_rfl) (fun k => by kernel_rfl) (fun k x => by kernel_rfl)
noncomputable abbrev P56 : List PT := [.val ⟨false, (.int .i64), false⟩, .val ⟨false, (.int .i64), false⟩]
noncomputable abbrev R56 : List RT := [.val ⟨false, (.int .i64), true⟩, .val ⟨false, .bool, true⟩]
noncomputable abbrev c56_J5 : Cut := ⟨[0, 1, 6, 7], [.cell (.int .i64), .cell (.int .i64), .cell .bool, .cell (.int .u64)], [], 45⟩
noncomputable def j56_5 (k : Nat) (a1 : Int) (b1 : Int) (below : Bool) (most : Int) : Option Y1_12 :=
 (S76 k a1).bind fun q0 =>
 (S76 k b1).bind fun q1 =>
 (S75 k q0.1.1 q1.1.1).bind fun q2 =>
 (bif !q2.1.2.1 then
  (S77 k below).bind fun q3 =>
  some ((q3.1.1, q3.1.2.1, ()), ())
 else
  (bif decide (q2.1.1 > most) then
   (S77 k below).bind fun q4 =>
   some ((q4.1.1, q4.1.2.1, ()), ())
  else
   (bif below then
    some ((IntKind.i64.wrap (IntKind.u64.wrap (0 - q2.1.1)), true, ()), ())
   else
    some ((IntKind.i64.wrap q2.1.1, true, ()), ()))))
noncomputable def S56 (k : Nat) (a : Int) (b : Int) : Option Y1_12 :=
 (bif !((decide (a < 0)) == (decide (b < 0))) then
  j56_5 k a b (!((decide (a < 0)) == (decide (b < 0)))) 9223372036854775808
 else
  j56_5 k a b (!((decide (a < 0)) == (decide (b < 0)))) 9223372036854775807)
noncomputable def E56 : Env := tab.env (lk [(75, F75), (76, F76), (77, F77)]) (hintL [])
theorem E56_ok : EnvOK Try.prog E56 := envOK_of tabOK _ _ (allFn_lk (l := [(75, F75), (76, F76), (77, F77)]) ⟨ok75, ok76, ok77, trivial⟩)
noncomputable def B56 (k : Nat) : Tbl (RD R56 × MD P56) := (.join 5 c56_J5 (fun d => j56_5 k d.2.1 d.2.2.1 d.2.2.2.1 d.2.2.2.2.1) .nil)
noncomputable def F56 : Fn := ⟨P56, R56, fun k x => S56 k x.1 x.2.1⟩
theorem ok56 : FnOK Try.prog 56 F56 := evalF_ok (E := E56) (T := B56) E56_ok mix Try.func56 rfl (by kernel_rfl) (by kernel_rfl) (fun k => by kernel_rfl) (fun k x => by kernel_rfl)
noncomputable abbrev P71 : List PT := [.val ⟨false, Y1_0, false⟩]
noncomputable abbrev R71 : List RT := [.val ⟨false, (.sl 2 (.int .i64)), true⟩]
noncomputable abbrev c71_L12 : Cut := ⟨[3, 5, 6, 7, 20, 21, 22], [.own 2 (.int .i64), .cell (.int .i64), .box 60 [.cell (.int .i64), .cell (.int .i64), .cell (.int .i64), .cell (.int .i64)], .cell (.int .i64), .cell Y1_0, .cell (.int .i64), .cell (.int .i64)], [], 55⟩
noncomputable def l71_12 (k : Nat) (g8 : Y1_8) (g12 : (List Int) → Int → Int → Int → Int → Int → Int → (List Y1_1) → Int → Int → Option Y1_3) (out2 : List Int) (i : Int) (x : Int) (x1 : Int) (x2 : Int) (x3 : Int) (k_ : Int) (t20_1 : List Y1_1) (t21_1 : Int) (t22_1 : Int) : Option Y1_3 :=
 (bif decide (k_ ≤ (IntKind.i64.wrap (i + x2))) then
  ix out2 k_ <|
  (S56 k (rd out2 k_ 0) x3).bind fun q0 =>
  ix out2 k_ <|
  g12 (upd out2 k_ q0.1.1) i x x1 x2 x3 (IntKind.i64.wrap (k_ + 1)) t20_1 t21_1 t22_1
 else
  g8 out2 t20_1 t21_1 (IntKind.i64.wrap (t22_1 + 1)))
noncomputable def b71_12 (k : Nat) (g8 : Y1_8) (g : ((Unit) × (List Int) × Int × (Int × Int × Int × Int × Unit) × Int × (List Y1_1) × Int × Int × Unit) → Option Y1_3) (d : (Unit) × (List Int) × Int × (Int × Int × Int × Int × Unit) × Int × (List Y1_1) × Int × Int × Unit) : Option Y1_3 := l71_12 k g8 (fun out2 i x x1 x2 x3 k_ t20_1 t21_1 t22_1 => g ((), out2, i, (x, x1, x2, x3, ()), k_, t20_1, t21_1, t22_1, ())) d.2.1 d.2.2.1 d.2.2.2.1.1 d.2.2.2.1.2.1 d.2.2.2.1.2.2.1 d.2.2.2.1.2.2.2.1 d.2.2.2.2.1 d.2.2.2.2.2.1 d.2.2.2.2.2.2.1 d.2.2.2.2.2.2.2.1
noncomputable def L71_12 (k : Nat) (g8 : Y1_8) (j : Nat) (out2 : List Int) (i : Int) (x : Int) (x1 : Int) (x2 : Int) (x3 : Int) (k_ : Int) (t20_1 : List Y1_1) (t21_1 : Int) (t22_1 : Int) : Option Y1_3 := iter (R := ((List Int) × Unit) × Unit) c71_L12 (b71_12 k g8) j ((), out2, i, (x, x1, x2, x3, ()), k_, t20_1, t21_1, t22_1, ())
theorem L71_12_s (k : Nat) (g8 : Y1_8) (j : Nat) (out2 : List Int) (i : Int) (x : Int) (x1 : Int) (x2 : Int) (x3 : Int) (k_ : Int) (t20_1 : List Y1_1) (t21_1 : Int) (t22_1 : Int) : L71_12 k g8 (j + 1) out2 i x x1 x2 x3 k_ t20_1 t21_1 t22_1 = l71_12 k g8 (L71_12 k g8 j) out2 i x x1 x2 x3 k_ t20_1 t21_1 t22_1 := iter_succ _ _ _ _
noncomputable abbrev c71_L8 : Cut := ⟨[3, 20, 21, 22], [.own 2 (.int .i64), .cell Y1_0, .cell (.int .i64), .cell (.int .i64)], [], 55⟩
noncomputable def l71_8 (k : Nat) (g8 : Y1_8) (out1 : List Int) (t20 : List Y1_1) (t21 : Int) (t22 : Int) : Option Y1_3 :=
 (bif decide (t22 < t21) then
  ix t20 t22 <|
  (bif (rd t20 t22 (0, 0, 0, 0)).1 != 8 then
   g8 out1 t20 t21 (IntKind.i64.wrap (t22 + 1))
  else
   L71_12 k g8 k out1 t22 (rd t20 t22 (0, 0, 0, 0)).1 (rd t20 t22 (0, 0, 0, 0)).2.1 (rd t20 t22 (0, 0, 0, 0)).2.2.1 (rd t20 t22 (0, 0, 0, 0)).2.2.2 (IntKind.i64.wrap (t22 + 1)) t20 t21 t22)
 else
  some ((out1, ()), ()))
noncomputable def b71_8 (k : Nat) (g : ((Unit) × (List Int) × (List Y1_1) × Int × Int × Unit) → Option Y1_3) (d : (Unit) × (List Int) × (List Y1_1) × Int × Int × Unit) : Option Y1_3 := l71_8 k (fun out1 t20 t21 t22 => g ((), out1, t20, t21, t22, ())) d.2.1 d.2.2.1 d.2.2.2.1 d.2.2.2.2.1
noncomputable def L71_8 (k : Nat) (j : Nat) (out1 : List Int) (t20 : List Y1_1) (t21 : Int) (t22 : Int) : Option Y1_3 := iter (R := ((List Int) × Unit) × Unit) c71_L8 (b71_8 k) j ((), out1, t20, t21, t22, ())
theorem L71_8_s (k : Nat) (j : Nat) (out1 : List Int) (t20 : List Y1_1) (t21 : Int) (t22 : Int) : L71_8 k (j + 1) out1 t20 t21 t22 = l71_8 k (L71_8 k j) out1 t20 t21 t22 := iter_succ _ _ _ _
noncomputable abbrev c71_L3 : Cut := ⟨[0, 3, 12, 13], [.cell Y1_0, .own 2 (.int .i64), .cell (.int .i64), .cell (.int .i64)], [], 55⟩
noncomputable def l71_3 (k : Nat) (g3 : (List Y1_1) → (List Int) → Int → Int → Option Y1_3) (l_1 : List Y1_1) (out : List Int) (t12 : Int) (t13 : Int) : Option Y1_3 :=
 (bif decide (t13 < t12) then
  ix out t13 <|
  g3 l_1 (upd out t13 1) t12 (IntKind.i64.wrap (t13 + 1))
 else
  L71_8 k k out l_1 (l_1.length : Int) 0)
noncomputable def b71_3 (k : Nat) (g : ((Unit) × (List Y1_1) × (List Int) × Int × Int × Unit) → Option Y1_3) (d : (Unit) × (List Y1_1) × (List Int) × Int × Int × Unit) : Option Y1_3 := l71_3 k (fun l_1 out t12 t13 => g ((), l_1, out, t12, t13, ())) d.2.1 d.2.2.1 d.2.2.2.1 d.2.2.2.2.1
noncomputable def L71_3 (k : Nat) (j : Nat) (l_1 : List Y1_1) (out : List Int) (t12 : Int) (t13 : Int) : Option Y1_3 := iter (R := ((List Int) × Unit) × Unit) c71_L3 (b71_3 k) j ((), l_1, out, t12, t13, ())
theorem L71_3_s (k : Nat) (j : Nat) (l_1 : List Y1_1) (out : List Int) (t12 : Int) (t13 : Int) : L71_3 k (j + 1) l_1 out t12 t13 = l71_3 k (L71_3 k j) l_1 out t12 t13 := iter_succ _ _ _ _
noncomputable def S71 (k : Nat) (l_ : List Y1_1) : Option Y1_3 :=
 mk (l_.length : Int) (l_.length : Int) 8 <|
 L71_3 k k l_ (List.replicate (l_.length : Int).toNat (0 : Int)) ((List.replicate (l_.length : Int).toNat (0 : Int)).length : Int) 0
noncomputable def E71 : Env := tab.env (lk [(56, F56)]) (hintL [])
theorem E71_ok : EnvOK Try.prog E71 := envOK_of tabOK _ _ (allFn_lk (l := [(56, F56)]) ⟨ok56, trivial⟩)
noncomputable def B71 (k : Nat) : Tbl (RD R71 × MD P71) := (.loop 8 c71_L8 (b71_8 k) (fun g => (fun (g8 : Y1_8) => (.loop 12 c71_L12 (b71_12 k g8) (fun g => .nil) .nil)) (fun out1 t20 t21 t22 => g ((), out1, t20, t21, t22, ()))) (.loop 3 c71_L3 (b71_3 k) (fun g => .nil) .nil))
noncomputable def F71 : Fn := ⟨P71, R71, fun k x => S71 k x.1⟩
theorem ok71 : FnOK Try.prog 71 F71 := evalF_ok (E := E71) (T := B71) E71_ok mix Try.func71 rfl (by kernel_rfl) (by kernel_rfl) (fun k => by kernel_rfl) (fun k x => by kernel_rfl)
noncomputable abbrev P57 : List PT := [.val ⟨false, (.int .i64), false⟩, .val ⟨false, (.int .i64), false⟩]
noncomputable abbrev R57 : List RT := [.val ⟨false, (.int .i64), true⟩, .val ⟨false, .bool, true⟩]
noncomputable def S57 (k : Nat) (a : Int) (b : Int) : Option Y1_12 :=
 (bif decide ((iand .i64 (ixor .i64 a (IntKind.i64.wrap (IntKind.u64.wrap ((IntKind.u64.wrap a) + (IntKind.u64.wrap b))))) (ixor .i64 b (IntKind.i64.wrap (IntKind.u64.wrap ((IntKind.u64.wrap a) + (IntKind.u64.wrap b)))))) < 0) then
  (S77 k (decide (a < 0))).bind fun q0 =>
  some ((q0.1.1, q0.1.2.1, ()), ())
 else
  some ((IntKind.i64.wrap (IntKind.u64.wrap ((IntKind.u64.wrap a) + (IntKind.u64.wrap b))), true, ()), ()))
noncomputable def E57 : Env := tab.env (lk [(77, F77)]) (hintL [])
theorem E57_ok : EnvOK Try.prog E57 := envOK_of tabOK _ _ (allFn_lk (l := [(77, F77)]) ⟨ok77, trivial⟩)
noncomputable def B57 (k : Nat) : Tbl (RD R57 × MD P57) := .nil
noncomputable def F57 : Fn := ⟨P57, R57, fun k x => S57 k x.1 x.2.1⟩
theorem ok57 : FnOK Try.prog 57 F57 := evalF_ok (E := E57) (T := B57) E57_ok mix Try.func57 rfl (by kernel_rfl) (by kernel_rfl) (fun k => by kernel_rfl) (fun k x => by kernel_rfl)
noncomputable abbrev P73 : List PT := [.val ⟨false, (.sl 2 (.int .i64)), false⟩]
noncomputable abbrev R73 : List RT := [.val ⟨false, (.int .i64), true⟩]
noncomputable abbrev c73_L2 : Cut := ⟨[2, 5, 6, 7], [.cell (.int .i64), .cell (.sl 2 (.int .i64)), .cell (.int .i64), .cell (.int .i64)], [], 19⟩
noncomputable def l73_2 (k : Nat) (g2 : Int → (List Int) → Int → Int → Option Y1_5) (s : Int) (t5 : List Int) (t6 : Int) (t7 : Int) : Option Y1_5 :=
 (bif decide (t7 < t6) then
  ix t5 t7 <|
  (S57 k s (rd t5 t7 0)).bind fun q0 =>
  g2 q0.1.1 t5 t6 (IntKind.i64.wrap (t7 + 1))
 else
  some ((s, ()), ()))
noncomputable def b73_2 (k : Nat) (g : ((Unit) × Int × (List Int) × Int × Int × Unit) → Option Y1_5) (d : (Unit) × Int × (List Int) × Int × Int × Unit) : Option Y1_5 := l73_2 k (fun s t5 t6 t7 => g ((), s, t5, t6, t7, ())) d.2.1 d.2.2.1 d.2.2.2.1 d.2.2.2.2.1
noncomputable def L73_2 (k : Nat) (j : Nat) (s : Int) (t5 : List Int) (t6 : Int) (t7 : Int) : Option Y1_5 := iter (R := (Int × Unit) × Unit) c73_L2 (b73_2 k) j ((), s, t5, t6, t7, ())
theorem L73_2_s (k : Nat) (j : Nat) (s : Int) (t5 : List Int) (t6 : Int) (t7 : Int) : L73_2 k (j + 1) s t5 t6 t7 = l73_2 k (L73_2 k j) s t5 t6 t7 := iter_succ _ _ _ _
noncomputable def S73 (k : Nat) (l_ : List Int) : Option Y1_5 :=
 L73_2 k k 0 l_ (l_.length : Int) 0
noncomputable def E73 : Env := tab.env (lk [(57, F57)]) (hintL [])
theorem E73_ok : EnvOK Try.prog E73 := envOK_of tabOK _ _ (allFn_lk (l := [(57, F57)]) ⟨ok57, trivial⟩)
noncomputable def B73 (k : Nat) : Tbl (RD R73 × MD P73) := (.loop 2 c73_L2 (b73_2 k) (fun g => .nil) .nil)
noncomputable def F73 : Fn := ⟨P73, R73, fun k x => S73 k x.1⟩
theorem ok73 : FnOK Try.prog 73 F73 := evalF_ok (E := E73) (T := B73) E73_ok mix Try.func73 rfl (by kernel_rfl) (by kernel_rfl) (fun k => by kernel_rfl) (fun k x => by kernel_rfl)
noncomputable abbrev P54 : List PT := [.val ⟨false, Y1_0, false⟩]
noncomputable abbrev R54 : List RT := [.val ⟨true, (.pair (.int .i64) (.pair (.int .i64) (.sl 73 (.pair (.int .i64) (.int .i64))))), true⟩, .val ⟨false, .bool, true⟩]
noncomputable abbrev c54_L7 : Cut := ⟨[2, 4, 5, 6, 24, 25, 26], [.box 75 [.cell (.int .i64), .cell (.int .i64), .own 73 (.pair (.int .i64) (.int .i64))], .own 2 (.int .i64), .cell (.int .i64), .own 3 (.int .i64), .cell Y1_0, .cell (.int .i64), .cell (.int .i64)], [], 75⟩
noncomputable def l54_7 (k : Nat) (g7 : Int → Int → (List (Int × Int)) → (List Int) → Int → (List Int) → (List Y1_1) → Int → Int → Option Y1_7) (c : Int) (c1 : Int) (c2 : List (Int × Int)) (all : List Int) (from_ : Int) (pairs : List Int) (t24 : List Y1_1) (t25 : Int) (t26 : Int) : Option Y1_7 :=
 (bif decide (t26 < t25) then
  ix t24 t26 <|
  (bif (rd t24 t26 (0, 0, 0, 0)).1 == 11 then
   sx all from_ (IntKind.i64.wrap (t26 + 1)) <|
   (S73 k (sub all from_ (IntKind.i64.wrap (t26 + 1)))).bind fun q4 =>
   g7 c (mx c1 q4.1.1) c2 all (IntKind.i64.wrap (t26 + 1)) pairs t24 t25 (IntKind.i64.wrap (t26 + 1))
  else
   (bif (rd t24 t26 (0, 0, 0, 0)).1 == 0 then
    sx all from_ (IntKind.i64.wrap (t26 + 1)) <|
    (S73 k (sub all from_ (IntKind.i64.wrap (t26 + 1)))).bind fun q5 =>
    g7 c (mx c1 q5.1.1) c2 all (IntKind.i64.wrap (t26 + 1)) pairs t24 t25 (IntKind.i64.wrap (t26 + 1))
   else
    (bif (rd t24 t26 (0, 0, 0, 0)).1 == 9 then
     ix pairs t26 <|
     sx all (IntKind.i64.wrap (t26 + 1)) (IntKind.i64.wrap ((rd pairs t26 0) + 1)) <|
     (S73 k (sub all (IntKind.i64.wrap (t26 + 1)) (IntKind.i64.wrap ((rd pairs t26 0) + 1)))).bind fun q6 =>
     ix all t26 <|
     nz (rd all t26 0) <|
     ap c2 ([((rd t24 t26 (0, 0, 0, 0)).2.1, IntKind.i64.wrap (Int.tdiv q6.1.1 (rd all t26 0)))] : List (Int × Int)) 16 fun r7 =>
     g7 c c1 r7 all from_ pairs t24 t25 (IntKind.i64.wrap (t26 + 1))
    else
     g7 c c1 c2 all from_ pairs t24 t25 (IntKind.i64.wrap (t26 + 1)))))
 else
  some (((c, c1, c2), true, ()), ()))
noncomputable def b54_7 (k : Nat) (g : ((Unit) × (Int × Int × (List (Int × Int)) × Unit) × (List Int) × Int × (List Int) × (List Y1_1) × Int × Int × Unit) → Option Y1_7) (d : (Unit) × (Int × Int × (List (Int × Int)) × Unit) × (List Int) × Int × (List Int) × (List Y1_1) × Int × Int × Unit) : Option Y1_7 := l54_7 k (fun c c1 c2 all from_ pairs t24 t25 t26 => g ((), (c, c1, c2, ()), all, from_, pairs, t24, t25, t26, ())) d.2.1.1 d.2.1.2.1 d.2.1.2.2.1 d.2.2.1 d.2.2.2.1 d.2.2.2.2.1 d.2.2.2.2.2.1 d.2.2.2.2.2.2.1 d.2.2.2.2.2.2.2.1
noncomputable def L54_7 (k : Nat) (j : Nat) (c : Int) (c1 : Int) (c2 : List (Int × Int)) (all : List Int) (from_ : Int) (pairs : List Int) (t24 : List Y1_1) (t25 : Int) (t26 : Int) : Option Y1_7 := iter (R := ((Int × Int × List (Int × Int)) × Bool × Unit) × Unit) c54_L7 (b54_7 k) j ((), (c, c1, c2, ()), all, from_, pairs, t24, t25, t26, ())
theorem L54_7_s (k : Nat) (j : Nat) (c : Int) (c1 : Int) (c2 : List (Int × Int)) (all : List Int) (from_ : Int) (pairs : List Int) (t24 : List Y1_1) (t25 : Int) (t26 : Int) : L54_7 k (j + 1) c c1 c2 all from_ pairs t24 t25 t26 = l54_7 k (L54_7 k j) c c1 c2 all from_ pairs t24 t25 t26 := iter_succ _ _ _ _
noncomputable def S54 (k : Nat) (l_ : List Y1_1) : Option Y1_7 :=
 (S64 k l_).bind fun q0 =>
 (bif !q0.1.1 then
  some (((0, 0, []), false, ()), ())
 else
  (S71 k l_).bind fun q1 =>
  (S72 k l_).bind fun q2 =>
  (S73 k q1.1.1).bind fun q3 =>
  L54_7 k k q3.1.1 0 ([] : List (Int × Int)) q1.1.1 0 q2.1.1 l_ (l_.length : Int) 0)
noncomputable def E54 : Env := tab.env (lk [(64, F64), (71, F71), (72, F72), (73, F73)]) (hintL [(2, 2)])
theorem E54_ok : EnvOK Try.prog E54 := envOK_of tabOK _ _ (allFn_lk (l := [(64, F64), (71, F71), (72, F72), (73, F73)]) ⟨ok64, ok71, ok72, ok73, trivial⟩)
noncomputable def B54 (k : Nat) : Tbl (RD R54 × MD P54) := (.loop 7 c54_L7 (b54_7 k) (fun g => .nil) .nil)
noncomputable def F54 : Fn := ⟨P54, R54, fun k x => S54 k x.1⟩
theorem ok54 : FnOK Try.prog 54 F54 := evalF_ok (E := E54) (T := B54) E54_ok mix Try.func54 rfl (by kernel_rfl) (by kernel_rfl) (fun k => by kernel_rfl) (fun k x => by kernel_rfl)
noncomputable abbrev P67 : List PT := [.val ⟨false, Y1_0, false⟩]
noncomputable abbrev R67 : List RT := [.val ⟨false, (.int .i64), true⟩]
noncomputable def S67 (k : Nat) (l_ : List Y1_1) : Option Y1_5 :=
 (S54 k l_).bind fun q0 =>
 some ((q0.1.1.1, ()), ())
noncomputable def E67 : Env := tab.env (lk [(54, F54)]) (hintL [])
theorem E67_ok : EnvOK Try.prog E67 := envOK_of tabOK _ _ (allFn_lk (l := [(54, F54)]) ⟨ok54, trivial⟩)
noncomputable def B67 (k : Nat) : Tbl (RD R67 × MD P67) := .nil
noncomputable def F67 : Fn := ⟨P67, R67, fun k x => S67 k x.1⟩
theorem ok67 : FnOK Try.prog 67 F67 := evalF_ok (E := E67) (T := B67) E67_ok mix Try.func67 rfl (by kernel_rfl) (by kernel_rfl) (fun k => by kernel_rfl) (fun k x => by kernel_rfl)
noncomputable abbrev P47 : List PT := [.val ⟨true, Y1_9, false⟩]
noncomputable abbrev R47 : List RT := [.val ⟨false, (.int .i64), true⟩]
noncomputable def S47 (k : Nat) (t : Int × Int × Int × (List Y1_1) × (List Y1_1) × List Y1_1) : Option Y1_5 :=
 (bif decide (t.1 < 0) then
  some ((1, ()), ())
 else
  (bif decide (t.1 > 63) then
   some ((1, ()), ())
  else
   (bif decide (t.2.1 < 1) then
    some ((9, ()), ())
   else
    (bif decide (t.2.1 > 16384) then
     some ((9, ()), ())
    else
     (bif decide (t.2.2.1 < 1) then
      some ((9, ()), ())
     else
      (bif decide (t.2.2.1 > t.2.1) then
       some ((9, ()), ())
      else
       (S64 k t.2.2.2.1).bind fun q0 =>
       (bif !q0.1.1 then
        some ((2, ()), ())
       else
        (S65 k t.2.2.2.2.1).bind fun q1 =>
        (bif !q1.1.1 then
         some ((2, ()), ())
        else
         (S65 k t.2.2.2.2.2).bind fun q2 =>
         (bif !q2.1.1 then
          some ((2, ()), ())
         else
          (S66 k t.2.2.2.2.2).bind fun q3 =>
          (bif q3.1.1 then
           some ((2, ()), ())
          else
           (S67 k t.2.2.2.1).bind fun q4 =>
           (bif decide (q4.1.1 > t.2.2.1) then
            some ((10, ()), ())
           else
            (S67 k t.2.2.2.2.1).bind fun q5 =>
            (S67 k t.2.2.2.1).bind fun q6 =>
            (bif decide (q5.1.1 > q6.1.1) then
             some ((12, ()), ())
            else
             some ((0, ()), ())))))))))))))
noncomputable def E47 : Env := tab.env (lk [(64, F64), (65, F65), (66, F66), (67, F67)]) (hintL [])
theorem E47_ok : EnvOK Try.prog E47 := envOK_of tabOK _ _ (allFn_lk (l := [(64, F64), (65, F65), (66, F66), (67, F67)]) ⟨ok64, ok65, ok66, ok67, trivial⟩)
noncomputable def B47 (k : Nat) : Tbl (RD R47 × MD P47) := .nil
noncomputable def F47 : Fn := ⟨P47, R47, fun k x => S47 k x.1⟩
theorem ok47 : FnOK Try.prog 47 F47 := evalF_ok (E := E47) (T := B47) E47_ok mix Try.func47 rfl (by kernel_rfl) (by kernel_rfl) (fun k => by kernel_rfl) (fun k x => by kernel_rfl)
noncomputable abbrev P35 : List PT := [.val ⟨false, (.sl 36 Y1_9), false⟩]
noncomputable abbrev R35 : List RT := [.val ⟨false, .bool, true⟩]
noncomputable abbrev c35_L2 : Cut := ⟨[0, 5, 6, 7], [.cell (.sl 36 Y1_9), .cell (.sl 36 Y1_9), .cell (.int .i64), .cell (.int .i64)], [], 31⟩
noncomputable def l35_2 (k : Nat) (g2 : (List Y1_2) → (List Y1_2) → Int → Int → Option Y1_6) (l_1 : List Y1_2) (t5 : List Y1_2) (t6 : Int) (t7 : Int) : Option Y1_6 :=
 (bif decide (t7 < t6) then
  ix t5 t7 <|
  (S47 k (rd t5 t7 (0, 0, 0, [], [], []))).bind fun q0 =>
  (bif q0.1.1 != 0 then
   some ((false, ()), ())
  else
   (bif decide (t7 > 0) then
    ix l_1 (IntKind.i64.wrap (t7 - 1)) <|
    (bif decide ((rd l_1 (IntKind.i64.wrap (t7 - 1)) (0, 0, 0, [], [], [])).1 ≥ (rd t5 t7 (0, 0, 0, [], [], [])).1) then
     some ((false, ()), ())
    else
     g2 l_1 t5 t6 (IntKind.i64.wrap (t7 + 1)))
   else
    g2 l_1 t5 t6 (IntKind.i64.wrap (t7 + 1))))
 else
  some ((true, ()), ()))
noncomputable def b35_2 (k : Nat) (g : ((Unit) × (List Y1_2) × (List Y1_2) × Int × Int × Unit) → Option Y1_6) (d : (Unit) × (List Y1_2) × (List Y1_2) × Int × Int × Unit) : Option Y1_6 := l35_2 k (fun l_1 t5 t6 t7 => g ((), l_1, t5, t6, t7, ())) d.2.1 d.2.2.1 d.2.2.2.1 d.2.2.2.2.1
noncomputable def L35_2 (k : Nat) (j : Nat) (l_1 : List Y1_2) (t5 : List Y1_2) (t6 : Int) (t7 : Int) : Option Y1_6 := iter (R := (Bool × Unit) × Unit) c35_L2 (b35_2 k) j ((), l_1, t5, t6, t7, ())
theorem L35_2_s (k : Nat) (j : Nat) (l_1 : List Y1_2) (t5 : List Y1_2) (t6 : Int) (t7 : Int) : L35_2 k (j + 1) l_1 t5 t6 t7 = l35_2 k (L35_2 k j) l_1 t5 t6 t7 := iter_succ _ _ _ _
noncomputable def S35 (k : Nat) (l_ : List Y1_2) : Option Y1_6 :=
 L35_2 k k l_ l_ (l_.length : Int) 0
noncomputable def E35 : Env := tab.env (lk [(47, F47)]) (hintL [])
theorem E35_ok : EnvOK Try.prog E35 := envOK_of tabOK _ _ (allFn_lk (l := [(47, F47)]) ⟨ok47, trivial⟩)
noncomputable def B35 (k : Nat) : Tbl (RD R35 × MD P35) := (.loop 2 c35_L2 (b35_2 k) (fun g => .nil) .nil)
noncomputable def F35 : Fn := ⟨P35, R35, fun k x => S35 k x.1⟩
theorem ok35 : FnOK Try.prog 35 F35 := evalF_ok (E := E35) (T := B35) E35_ok mix Try.func35 rfl (by kernel_rfl) (by kernel_rfl) (fun k => by kernel_rfl) (fun k x => by kernel_rfl)
noncomputable abbrev P74 : List PT := [.pv (.nil), .val ⟨false, (.int .i64), false⟩]
noncomputable abbrev R74 : List RT := [.val ⟨false, (.sl 73 (.pair (.int .i64) (.int .i64))), true⟩]
noncomputable def S74 (k : Nat) (n : Int) : Option (((List (Int × Int)) × Unit) × Unit) :=
 (bif decide (n < 0) then
  none
 else
  (bif decide ((IntKind.i64.wrap (n - 0)) > 0) then
   az ([] : List (Int × Int)) (IntKind.i64.wrap (n - 0)) 16 (0, 0) fun r0 =>
   sx r0 0 0 <|
   some ((r0.take 0, ()), ())
  else
   some (([], ()), ())))
noncomputable def E74 : Env := tab.env (lk []) (hintL [(25, 1)])
theorem E74_ok : EnvOK Try.prog E74 := envOK_of tabOK _ _ (fun f F h => by cases h)
noncomputable def B74 (k : Nat) : Tbl (RD R74 × MD P74) := .nil
noncomputable def F74 : Fn := ⟨P74, R74, fun k x => S74 k x.2.1⟩
theorem ok74 : FnOK Try.prog 74 F74 := evalF_ok (E := E74) (T := B74) E74_ok mix Try.func74 rfl (by kernel_rfl) (by kernel_rfl) (fun k => by kernel_rfl) (fun k x => by kernel_rfl)
end Go.Proofs.Ytinopkpnlibopaa.Ab
