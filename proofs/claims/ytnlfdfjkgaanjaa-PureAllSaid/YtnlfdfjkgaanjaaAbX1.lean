import Derived.Test.YtnlfdfjkgaanjaaAbX0
/- Contracts, printed by this session's own program gen.py. -/
set_option linter.unusedVariables false
set_option linter.unusedSimpArgs false
set_option maxRecDepth 100000
namespace Go.Proofs.Ytnlfdfjkgaanjaa.Ab
open Go.RowKit Go.Proofs.YtnlfdfjkgaanjaaW.PrintWords
abbrev Y1_0 : Ty := .pair (.int .i64) (.pair (.int .i64) (.int .i64))
abbrev Y1_1 : Type := Int × Int × Int × Int
abbrev Y1_2 : Type := ((Int × (PN Int 8) × (List (Int × Int × Int)) × Bool) × Unit) × Unit
abbrev Y1_3 : Type := (List Y1_1) → (List Int) → (List Int) → (List ((PN Bool 24) × Int)) → (List (PN Bool 24)) → (List (PN Bool 24)) → Int → Int → Option (((List Int) × Bool × Unit) × Unit)
abbrev Y1_4 : Ty := .pair (.int .i64) (.pair (arrT 8 (.int .i64)) (.pair (.sl 142 Y1_0) .bool))
abbrev Y1_5 : Type := Int × Int × Int × Int × Int × Int × Int × Int × Int × (List (Int × Int × Int)) × Bool × Unit
abbrev Y1_6 : Type := Int × Int × Int
abbrev Y1_7 : Ty := .sl 34 (.pair (.int .i64) Y1_0)
abbrev Y1_8 : Type := ((List Int) × Bool × Unit) × Unit
abbrev Y1_9 : Type := (Int × Int × Bool × Unit) × Unit
abbrev Y1_10 : Type := PN Bool 24
abbrev Y1_11 : Type := (Bool × Unit) × Unit
abbrev Y1_12 : Type := (Int × Unit) × Unit
abbrev Y1_13 : Ty := arrT 24 .bool
noncomputable abbrev P64 : List PT := [.val ⟨false, Y1_7, false⟩]
noncomputable abbrev R64 : List RT := [.val ⟨false, (.sl 3 (.int .i64)), true⟩, .val ⟨false, .bool, true⟩]
noncomputable abbrev c64_J8 : Cut := ⟨[1, 4, 5, 6, 7, 8, 9, 20, 21, 22], [.box 22 [.cell Y1_7], .own 3 (.int .i64), .own 3 (.int .i64), .mp 171 true Y1_13 false (.int .i64), .cell (.sl 134 Y1_13), .box 3 [.cell (.int .i64)], .box 134 [.cell .bool, .cell .bool, .cell .bool, .cell .bool, .cell .bool, .cell .bool, .cell .bool, .cell .bool, .cell .bool, .cell .bool, .cell .bool, .cell .bool, .cell .bool, .cell .bool, .cell .bool, .cell .bool, .cell .bool, .cell .bool, .cell .bool, .cell .bool, .cell .bool, .cell .bool, .cell .bool, .cell .bool], .cell (.sl 134 Y1_13), .cell (.int .i64), .cell (.int .i64)], [], 110⟩
noncomputable def j64_8 (k : Nat) (g3 : Y1_3) (l_2 : List Y1_1) (out1 : List Int) (open_1 : List Int) (same1 : List (Y1_10 × Int)) (all1 : List Y1_10) (i : Int) (x : Bool) (x1 : Bool) (x2 : Bool) (x3 : Bool) (x4 : Bool) (x5 : Bool) (x6 : Bool) (x7 : Bool) (x8 : Bool) (x9 : Bool) (x10 : Bool) (x11 : Bool) (x12 : Bool) (x13 : Bool) (x14 : Bool) (x15 : Bool) (x16 : Bool) (x17 : Bool) (x18 : Bool) (x19 : Bool) (x20 : Bool) (x21 : Bool) (x22 : Bool) (x23 : Bool) (t20_1 : List Y1_10) (t21_1 : Int) (t22_1 : Int) : Option Y1_8 :=
 ix l_2 i <|
 (bif (rd l_2 i (0, 0, 0, 0)).1 == 9 then
  (bif decide ((open_1.length : Int) ≥ 2) then
   some (([], false, ()), ())
  else
   (S66a k open_1 l_2 i).bind fun q1 =>
   (bif q1.1.1 then
    some (([], false, ()), ())
   else
    ap open_1 ([i] : List Int) 8 fun r2 =>
    g3 l_2 out1 r2 same1 all1 t20_1 t21_1 (IntKind.i64.wrap (t22_1 + 1))))
 else
  (bif (rd l_2 i (0, 0, 0, 0)).1 == 10 then
   (bif decide ((IntKind.i64.wrap ((open_1.length : Int) - 1)) < 0) then
    some (([], false, ()), ())
   else
    ix open_1 (IntKind.i64.wrap ((open_1.length : Int) - 1)) <|
    ix l_2 (rd open_1 (IntKind.i64.wrap ((open_1.length : Int) - 1)) 0) <|
    ix l_2 i <|
    (bif (rd l_2 (rd open_1 (IntKind.i64.wrap ((open_1.length : Int) - 1)) 0) (0, 0, 0, 0)).2.1 != (rd l_2 i (0, 0, 0, 0)).2.1 then
     some (([], false, ()), ())
    else
     ix open_1 (IntKind.i64.wrap ((open_1.length : Int) - 1)) <|
     ix all1 (rd open_1 (IntKind.i64.wrap ((open_1.length : Int) - 1)) 0) <|
     (bif (mget Y1_13 (.int .i64) (rd all1 (rd open_1 (IntKind.i64.wrap ((open_1.length : Int) - 1)) 0) (prep (α := Bool) 24 false)) same1 0) != (mget Y1_13 (.int .i64) (x, x1, x2, x3, x4, x5, x6, x7, x8, x9, x10, x11, x12, x13, x14, x15, x16, x17, x18, x19, x20, x21, x22, x23) same1 0) then
      some (([], false, ()), ())
     else
      ix open_1 (IntKind.i64.wrap ((open_1.length : Int) - 1)) <|
      ix out1 (rd open_1 (IntKind.i64.wrap ((open_1.length : Int) - 1)) 0) <|
      sx open_1 0 (IntKind.i64.wrap ((open_1.length : Int) - 1)) <|
      g3 l_2 (upd out1 (rd open_1 (IntKind.i64.wrap ((open_1.length : Int) - 1)) 0) i) (open_1.take (IntKind.i64.wrap ((open_1.length : Int) - 1)).toNat) same1 all1 t20_1 t21_1 (IntKind.i64.wrap (t22_1 + 1)))))
  else
   g3 l_2 out1 open_1 same1 all1 t20_1 t21_1 (IntKind.i64.wrap (t22_1 + 1))))
noncomputable abbrev c64_L3 : Cut := ⟨[1, 4, 5, 6, 7, 20, 21, 22], [.box 22 [.cell Y1_7], .own 3 (.int .i64), .own 3 (.int .i64), .mp 171 true Y1_13 false (.int .i64), .cell (.sl 134 Y1_13), .cell (.sl 134 Y1_13), .cell (.int .i64), .cell (.int .i64)], [], 110⟩
noncomputable def l64_3 (k : Nat) (g3 : Y1_3) (l_1 : List Y1_1) (out : List Int) (open_ : List Int) (same : List (Y1_10 × Int)) (all : List Y1_10) (t20 : List Y1_10) (t21 : Int) (t22 : Int) : Option Y1_8 :=
 (bif decide (t22 < t21) then
  ix t20 t22 <|
  (bif !(mhas Y1_13 (.int .i64) (rd t20 t22 (prep (α := Bool) 24 false)) same) then
   j64_8 k g3 l_1 out open_ (updD Y1_13 (.int .i64) (rd t20 t22 (prep (α := Bool) 24 false)) t22 same) all t22 (rd t20 t22 (prep (α := Bool) 24 false)).1 (rd t20 t22 (prep (α := Bool) 24 false)).2.1 (rd t20 t22 (prep (α := Bool) 24 false)).2.2.1 (rd t20 t22 (prep (α := Bool) 24 false)).2.2.2.1 (rd t20 t22 (prep (α := Bool) 24 false)).2.2.2.2.1 (rd t20 t22 (prep (α := Bool) 24 false)).2.2.2.2.2.1 (rd t20 t22 (prep (α := Bool) 24 false)).2.2.2.2.2.2.1 (rd t20 t22 (prep (α := Bool) 24 false)).2.2.2.2.2.2.2.1 (rd t20 t22 (prep (α := Bool) 24 false)).2.2.2.2.2.2.2.2.1 (rd t20 t22 (prep (α := Bool) 24 false)).2.2.2.2.2.2.2.2.2.1 (rd t20 t22 (prep (α := Bool) 24 false)).2.2.2.2.2.2.2.2.2.2.1 (rd t20 t22 (prep (α := Bool) 24 false)).2.2.2.2.2.2.2.2.2.2.2.1 (rd t20 t22 (prep (α := Bool) 24 false)).2.2.2.2.2.2.2.2.2.2.2.2.1 (rd t20 t22 (prep (α := Bool) 24 false)).2.2.2.2.2.2.2.2.2.2.2.2.2.1 (rd t20 t22 (prep (α := Bool) 24 false)).2.2.2.2.2.2.2.2.2.2.2.2.2.2.1 (rd t20 t22 (prep (α := Bool) 24 false)).2.2.2.2.2.2.2.2.2.2.2.2.2.2.2.1 (rd t20 t22 (prep (α := Bool) 24 false)).2.2.2.2.2.2.2.2.2.2.2.2.2.2.2.2.1 (rd t20 t22 (prep (α := Bool) 24 false)).2.2.2.2.2.2.2.2.2.2.2.2.2.2.2.2.2.1 (rd t20 t22 (prep (α := Bool) 24 false)).2.2.2.2.2.2.2.2.2.2.2.2.2.2.2.2.2.2.1 (rd t20 t22 (prep (α := Bool) 24 false)).2.2.2.2.2.2.2.2.2.2.2.2.2.2.2.2.2.2.2.1 (rd t20 t22 (prep (α := Bool) 24 false)).2.2.2.2.2.2.2.2.2.2.2.2.2.2.2.2.2.2.2.2.1 (rd t20 t22 (prep (α := Bool) 24 false)).2.2.2.2.2.2.2.2.2.2.2.2.2.2.2.2.2.2.2.2.2.1 (rd t20 t22 (prep (α := Bool) 24 false)).2.2.2.2.2.2.2.2.2.2.2.2.2.2.2.2.2.2.2.2.2.2.1 (rd t20 t22 (prep (α := Bool) 24 false)).2.2.2.2.2.2.2.2.2.2.2.2.2.2.2.2.2.2.2.2.2.2.2 t20 t21 t22
  else
   j64_8 k g3 l_1 out open_ same all t22 (rd t20 t22 (prep (α := Bool) 24 false)).1 (rd t20 t22 (prep (α := Bool) 24 false)).2.1 (rd t20 t22 (prep (α := Bool) 24 false)).2.2.1 (rd t20 t22 (prep (α := Bool) 24 false)).2.2.2.1 (rd t20 t22 (prep (α := Bool) 24 false)).2.2.2.2.1 (rd t20 t22 (prep (α := Bool) 24 false)).2.2.2.2.2.1 (rd t20 t22 (prep (α := Bool) 24 false)).2.2.2.2.2.2.1 (rd t20 t22 (prep (α := Bool) 24 false)).2.2.2.2.2.2.2.1 (rd t20 t22 (prep (α := Bool) 24 false)).2.2.2.2.2.2.2.2.1 (rd t20 t22 (prep (α := Bool) 24 false)).2.2.2.2.2.2.2.2.2.1 (rd t20 t22 (prep (α := Bool) 24 false)).2.2.2.2.2.2.2.2.2.2.1 (rd t20 t22 (prep (α := Bool) 24 false)).2.2.2.2.2.2.2.2.2.2.2.1 (rd t20 t22 (prep (α := Bool) 24 false)).2.2.2.2.2.2.2.2.2.2.2.2.1 (rd t20 t22 (prep (α := Bool) 24 false)).2.2.2.2.2.2.2.2.2.2.2.2.2.1 (rd t20 t22 (prep (α := Bool) 24 false)).2.2.2.2.2.2.2.2.2.2.2.2.2.2.1 (rd t20 t22 (prep (α := Bool) 24 false)).2.2.2.2.2.2.2.2.2.2.2.2.2.2.2.1 (rd t20 t22 (prep (α := Bool) 24 false)).2.2.2.2.2.2.2.2.2.2.2.2.2.2.2.2.1 (rd t20 t22 (prep (α := Bool) 24 false)).2.2.2.2.2.2.2.2.2.2.2.2.2.2.2.2.2.1 (rd t20 t22 (prep (α := Bool) 24 false)).2.2.2.2.2.2.2.2.2.2.2.2.2.2.2.2.2.2.1 (rd t20 t22 (prep (α := Bool) 24 false)).2.2.2.2.2.2.2.2.2.2.2.2.2.2.2.2.2.2.2.1 (rd t20 t22 (prep (α := Bool) 24 false)).2.2.2.2.2.2.2.2.2.2.2.2.2.2.2.2.2.2.2.2.1 (rd t20 t22 (prep (α := Bool) 24 false)).2.2.2.2.2.2.2.2.2.2.2.2.2.2.2.2.2.2.2.2.2.1 (rd t20 t22 (prep (α := Bool) 24 false)).2.2.2.2.2.2.2.2.2.2.2.2.2.2.2.2.2.2.2.2.2.2.1 (rd t20 t22 (prep (α := Bool) 24 false)).2.2.2.2.2.2.2.2.2.2.2.2.2.2.2.2.2.2.2.2.2.2.2 t20 t21 t22)
 else
  (bif decide ((open_.length : Int) > 0) then
   some (([], false, ()), ())
  else
   some ((out, true, ()), ())))
noncomputable def b64_3 (k : Nat) (g : ((Unit) × ((List Y1_1) × Unit) × (List Int) × (List Int) × (List (Y1_10 × Int)) × (List Y1_10) × (List Y1_10) × Int × Int × Unit) → Option Y1_8) (d : (Unit) × ((List Y1_1) × Unit) × (List Int) × (List Int) × (List (Y1_10 × Int)) × (List Y1_10) × (List Y1_10) × Int × Int × Unit) : Option Y1_8 := l64_3 k (fun l_1 out open_ same all t20 t21 t22 => g ((), (l_1, ()), out, open_, same, all, t20, t21, t22, ())) d.2.1.1 d.2.2.1 d.2.2.2.1 d.2.2.2.2.1 d.2.2.2.2.2.1 d.2.2.2.2.2.2.1 d.2.2.2.2.2.2.2.1 d.2.2.2.2.2.2.2.2.1
noncomputable def L64_3 (k : Nat) (j : Nat) (l_1 : List Y1_1) (out : List Int) (open_ : List Int) (same : List (Y1_10 × Int)) (all : List Y1_10) (t20 : List Y1_10) (t21 : Int) (t22 : Int) : Option Y1_8 := iter (R := ((List Int) × Bool × Unit) × Unit) c64_L3 (b64_3 k) j ((), (l_1, ()), out, open_, same, all, t20, t21, t22, ())
theorem L64_3_s (k : Nat) (j : Nat) (l_1 : List Y1_1) (out : List Int) (open_ : List Int) (same : List (Y1_10 × Int)) (all : List Y1_10) (t20 : List Y1_10) (t21 : Int) (t22 : Int) : L64_3 k (j + 1) l_1 out open_ same all t20 t21 t22 = l64_3 k (L64_3 k j) l_1 out open_ same all t20 t21 t22 := iter_succ _ _ _ _
noncomputable def S64 (k : Nat) (l_ : List Y1_1) : Option Y1_8 :=
 mk (l_.length : Int) (l_.length : Int) 8 <|
 (S65 k l_).bind fun q0 =>
 L64_3 k k l_ (List.replicate (l_.length : Int).toNat (0 : Int)) ([] : List Int) ([] : List (Y1_10 × Int)) q0.1.1 q0.1.1 (q0.1.1.length : Int) 0
noncomputable def E64 : Env := tab.env (lk [(65, F65), (66, F66a)]) (hintL [(104, 1)])
theorem E64_ok : EnvOK Try.prog E64 := envOK_of tabOK _ _ (allFn_lk (l := [(65, F65), (66, F66a)]) ⟨ok65, ok66a, trivial⟩)
noncomputable def B64 (k : Nat) : Tbl (RD R64 × MD P64) := (.loop 3 c64_L3 (b64_3 k) (fun g => (fun (g3 : Y1_3) => (.join 8 c64_J8 (fun d => j64_8 k g3 d.2.1.1 d.2.2.1 d.2.2.2.1 d.2.2.2.2.1 d.2.2.2.2.2.1 d.2.2.2.2.2.2.1.1 d.2.2.2.2.2.2.2.1.1 d.2.2.2.2.2.2.2.1.2.1 d.2.2.2.2.2.2.2.1.2.2.1 d.2.2.2.2.2.2.2.1.2.2.2.1 d.2.2.2.2.2.2.2.1.2.2.2.2.1 d.2.2.2.2.2.2.2.1.2.2.2.2.2.1 d.2.2.2.2.2.2.2.1.2.2.2.2.2.2.1 d.2.2.2.2.2.2.2.1.2.2.2.2.2.2.2.1 d.2.2.2.2.2.2.2.1.2.2.2.2.2.2.2.2.1 d.2.2.2.2.2.2.2.1.2.2.2.2.2.2.2.2.2.1 d.2.2.2.2.2.2.2.1.2.2.2.2.2.2.2.2.2.2.1 d.2.2.2.2.2.2.2.1.2.2.2.2.2.2.2.2.2.2.2.1 d.2.2.2.2.2.2.2.1.2.2.2.2.2.2.2.2.2.2.2.2.1 d.2.2.2.2.2.2.2.1.2.2.2.2.2.2.2.2.2.2.2.2.2.1 d.2.2.2.2.2.2.2.1.2.2.2.2.2.2.2.2.2.2.2.2.2.2.1 d.2.2.2.2.2.2.2.1.2.2.2.2.2.2.2.2.2.2.2.2.2.2.2.1 d.2.2.2.2.2.2.2.1.2.2.2.2.2.2.2.2.2.2.2.2.2.2.2.2.1 d.2.2.2.2.2.2.2.1.2.2.2.2.2.2.2.2.2.2.2.2.2.2.2.2.2.1 d.2.2.2.2.2.2.2.1.2.2.2.2.2.2.2.2.2.2.2.2.2.2.2.2.2.2.1 d.2.2.2.2.2.2.2.1.2.2.2.2.2.2.2.2.2.2.2.2.2.2.2.2.2.2.2.1 d.2.2.2.2.2.2.2.1.2.2.2.2.2.2.2.2.2.2.2.2.2.2.2.2.2.2.2.2.1 d.2.2.2.2.2.2.2.1.2.2.2.2.2.2.2.2.2.2.2.2.2.2.2.2.2.2.2.2.2.1 d.2.2.2.2.2.2.2.1.2.2.2.2.2.2.2.2.2.2.2.2.2.2.2.2.2.2.2.2.2.2.1 d.2.2.2.2.2.2.2.1.2.2.2.2.2.2.2.2.2.2.2.2.2.2.2.2.2.2.2.2.2.2.2.1 d.2.2.2.2.2.2.2.2.1 d.2.2.2.2.2.2.2.2.2.1 d.2.2.2.2.2.2.2.2.2.2.1) .nil)) (fun l_1 out open_ same all t20 t21 t22 => g ((), (l_1, ()), out, open_, same, all, t20, t21, t22, ()))) .nil)
noncomputable def F64 : Fn := ⟨P64, R64, fun k x => S64 k x.1⟩
theorem ok64 : FnOK Try.prog 64 F64 := evalF_ok (E := E64) (T := B64) E64_ok mix Try.func64 rfl (by kernel_rfl) (by kernel_rfl) (fun k => by kernel_rfl) (fun k x => by kernel_rfl)
noncomputable abbrev P67 : List PT := [.val ⟨false, (.int .i64), false⟩, .pv (.ref (.int .i64))]
noncomputable abbrev R67 : List RT := [.val ⟨false, .bool, true⟩]
noncomputable def S67 (k : Nat) (end_ : Int) (x1 : Int) : Option Y1_11 :=
 some ((decide (end_ > x1), ()), ())
noncomputable def E67 : Env := tab.env (lk []) (hintL [])
theorem E67_ok : EnvOK Try.prog E67 := envOK_of tabOK _ _ (fun f F h => by cases h)
noncomputable def B67 (k : Nat) : Tbl (RD R67 × MD P67) := .nil
noncomputable def F67 : Fn := ⟨P67, R67, fun k x => S67 k x.1 x.2.1⟩
theorem ok67 : FnOK Try.prog 67 F67 := evalF_ok (E := E67) (T := B67) E67_ok mix Try.func67 rfl (by kernel_rfl) (by kernel_rfl) (fun k => by kernel_rfl) (fun k x => by kernel_rfl)
noncomputable abbrev P98b : List PT := [.val ⟨false, (.sl 3 (.int .i64)), false⟩, .pv (.clo 67 [.ref (.int .i64)])]
noncomputable abbrev R98b : List RT := [.val ⟨false, (.int .i64), true⟩]
noncomputable abbrev c98b_L2 : Cut := ⟨[0, 1, 7, 8], [.cell (.sl 3 (.int .i64)), .clo 67 [.ref (.int .i64)], .cell (.int .i64), .cell (.int .i64)], [], 19⟩
noncomputable def l98b_2 (k : Nat) (g2 : (List Int) → Int → Int → Int → Option Y1_12) (s1 : List Int) (f1 : Int) (t7 : Int) (t8 : Int) : Option Y1_12 :=
 (bif decide (t8 < t7) then
  ix s1 t8 <|
  (S67 k (rd s1 t8 0) f1).bind fun q0 =>
  (bif q0.1.1 then
   some ((t8, ()), ())
  else
   g2 s1 f1 t7 (IntKind.i64.wrap (t8 + 1)))
 else
  some (((-1), ()), ()))
noncomputable def b98b_2 (k : Nat) (g : ((Unit) × (List Int) × (Int × Unit) × Int × Int × Unit) → Option Y1_12) (d : (Unit) × (List Int) × (Int × Unit) × Int × Int × Unit) : Option Y1_12 := l98b_2 k (fun s1 f1 t7 t8 => g ((), s1, (f1, ()), t7, t8, ())) d.2.1 d.2.2.1.1 d.2.2.2.1 d.2.2.2.2.1
noncomputable def L98b_2 (k : Nat) (j : Nat) (s1 : List Int) (f1 : Int) (t7 : Int) (t8 : Int) : Option Y1_12 := iter (R := (Int × Unit) × Unit) c98b_L2 (b98b_2 k) j ((), s1, (f1, ()), t7, t8, ())
theorem L98b_2_s (k : Nat) (j : Nat) (s1 : List Int) (f1 : Int) (t7 : Int) (t8 : Int) : L98b_2 k (j + 1) s1 f1 t7 t8 = l98b_2 k (L98b_2 k j) s1 f1 t7 t8 := iter_succ _ _ _ _
noncomputable def S98b (k : Nat) (s : List Int) (f : Int) : Option Y1_12 :=
 L98b_2 k k s f (s.length : Int) 0
noncomputable def E98b : Env := tab.env (lk [(67, F67)]) (hintL [])
theorem E98b_ok : EnvOK Try.prog E98b := envOK_of tabOK _ _ (allFn_lk (l := [(67, F67)]) ⟨ok67, trivial⟩)
noncomputable def B98b (k : Nat) : Tbl (RD R98b × MD P98b) := (.loop 2 c98b_L2 (b98b_2 k) (fun g => .nil) .nil)
noncomputable def F98b : Fn := ⟨P98b, R98b, fun k x => S98b k x.1 x.2.1.1⟩
theorem ok98b : FnOK Try.prog 98 F98b := evalF_ok (E := E98b) (T := B98b) E98b_ok mix Try.func98 rfl (by kernel_rfl) (by kernel_rfl) (fun k => by kernel_rfl) (fun k x => by kernel_rfl)
noncomputable abbrev P66b : List PT := [.val ⟨false, (.sl 3 (.int .i64)), false⟩, .pv (.clo 67 [.ref (.int .i64)])]
noncomputable abbrev R66b : List RT := [.val ⟨false, .bool, true⟩]
noncomputable def S66b (k : Nat) (s : List Int) (f : Int) : Option Y1_11 :=
 (S98b k s f).bind fun q0 =>
 some ((decide (q0.1.1 ≥ 0), ()), ())
noncomputable def E66b : Env := tab.env (lk [(98, F98b)]) (hintL [])
theorem E66b_ok : EnvOK Try.prog E66b := envOK_of tabOK _ _ (allFn_lk (l := [(98, F98b)]) ⟨ok98b, trivial⟩)
noncomputable def B66b (k : Nat) : Tbl (RD R66b × MD P66b) := .nil
noncomputable def F66b : Fn := ⟨P66b, R66b, fun k x => S66b k x.1 x.2.1.1⟩
theorem ok66b : FnOK Try.prog 66 F66b := evalF_ok (E := E66b) (T := B66b) E66b_ok mix Try.func66 rfl (by kernel_rfl) (by kernel_rfl) (fun k => by kernel_rfl) (fun k x => by kernel_rfl)
noncomputable abbrev P36 : List PT := [.val ⟨false, Y1_7, false⟩]
noncomputable abbrev R36 : List RT := [.val ⟨false, .bool, true⟩]
noncomputable abbrev c36_L11 : Cut := ⟨[4, 6, 42, 43, 44], [.own 3 (.int .i64), .own 134 Y1_13, .cell Y1_7, .cell (.int .i64), .cell (.int .i64)], [], 66⟩
noncomputable def l36_11 (k : Nat) (g11 : (List Int) → (List Y1_10) → (List Y1_1) → Int → Int → Option Y1_11) (pairs : List Int) (all : List Y1_10) (t42 : List Y1_1) (t43 : Int) (t44 : Int) : Option Y1_11 :=
 (bif decide (t44 < t43) then
  ix t42 t44 <|
  (bif (rd t42 t44 (0, 0, 0, 0)).1 != 11 then
   g11 pairs all t42 t43 (IntKind.i64.wrap (t44 + 1))
  else
   ix all t44 <|
   (bif !(beqD Y1_13 (rd all t44 (prep (α := Bool) 24 false)) (false, false, false, false, false, false, false, false, false, false, false, false, false, false, false, false, false, false, false, false, false, false, false, false)) then
    some ((false, ()), ())
   else
    sx pairs 0 t44 <|
    (S66b k (sub pairs 0 t44) t44).bind fun q5 =>
    (bif q5.1.1 then
     some ((false, ()), ())
    else
     g11 pairs all t42 t43 (IntKind.i64.wrap (t44 + 1)))))
 else
  some ((true, ()), ()))
noncomputable def b36_11 (k : Nat) (g : ((Unit) × (List Int) × (List Y1_10) × (List Y1_1) × Int × Int × Unit) → Option Y1_11) (d : (Unit) × (List Int) × (List Y1_10) × (List Y1_1) × Int × Int × Unit) : Option Y1_11 := l36_11 k (fun pairs all t42 t43 t44 => g ((), pairs, all, t42, t43, t44, ())) d.2.1 d.2.2.1 d.2.2.2.1 d.2.2.2.2.1 d.2.2.2.2.2.1
noncomputable def L36_11 (k : Nat) (j : Nat) (pairs : List Int) (all : List Y1_10) (t42 : List Y1_1) (t43 : Int) (t44 : Int) : Option Y1_11 := iter (R := (Bool × Unit) × Unit) c36_L11 (b36_11 k) j ((), pairs, all, t42, t43, t44, ())
theorem L36_11_s (k : Nat) (j : Nat) (pairs : List Int) (all : List Y1_10) (t42 : List Y1_1) (t43 : Int) (t44 : Int) : L36_11 k (j + 1) pairs all t42 t43 t44 = l36_11 k (L36_11 k j) pairs all t42 t43 t44 := iter_succ _ _ _ _
noncomputable def S36 (k : Nat) (l_ : List Y1_1) : Option Y1_11 :=
 (bif decide ((l_.length : Int) < 1) then
  some ((false, ()), ())
 else
  (bif decide ((l_.length : Int) > 24) then
   some ((false, ()), ())
  else
   (S58 k l_).bind fun q0 =>
   (bif q0.1.1 then
    some ((false, ()), ())
   else
    (S61a k l_).bind fun q1 =>
    (bif q1.1.1 != (IntKind.i64.wrap ((l_.length : Int) - 1)) then
     some ((false, ()), ())
    else
     (S63 k l_).bind fun q2 =>
     (bif !q2.1.1 then
      some ((false, ()), ())
     else
      (S64 k l_).bind fun q3 =>
      (bif !q3.1.2.1 then
       some ((false, ()), ())
      else
       (S65 k l_).bind fun q4 =>
       L36_11 k k q3.1.1 q4.1.1 l_ (l_.length : Int) 0))))))
noncomputable def E36 : Env := tab.env (lk [(58, F58), (61, F61a), (63, F63), (64, F64), (65, F65), (66, F66b)]) (hintL [])
theorem E36_ok : EnvOK Try.prog E36 := envOK_of tabOK _ _ (allFn_lk (l := [(58, F58), (61, F61a), (63, F63), (64, F64), (65, F65), (66, F66b)]) ⟨ok58, ok61a, ok63, ok64, ok65, ok66b, trivial⟩)
noncomputable def B36 (k : Nat) : Tbl (RD R36 × MD P36) := (.loop 11 c36_L11 (b36_11 k) (fun g => .nil) .nil)
noncomputable def F36 : Fn := ⟨P36, R36, fun k x => S36 k x.1⟩
theorem ok36 : FnOK Try.prog 36 F36 := evalF_ok (E := E36) (T := B36) E36_ok mix Try.func36 rfl (by kernel_rfl) (by kernel_rfl) (fun k => by kernel_rfl) (fun k x => by kernel_rfl)
noncomputable abbrev P37 : List PT := [.val ⟨false, (.int .i64), false⟩]
noncomputable abbrev R37 : List RT := [.val ⟨true, Y1_4, true⟩]
noncomputable def S37 (k : Nat) (in_ : Int) : Option Y1_2 :=
 some (((0, (in_, 0, 0, 0, 0, 0, 0, 0), [], false), ()), ())
noncomputable def E37 : Env := tab.env (lk []) (hintL [])
theorem E37_ok : EnvOK Try.prog E37 := envOK_of tabOK _ _ (fun f F h => by cases h)
noncomputable def B37 (k : Nat) : Tbl (RD R37 × MD P37) := .nil
noncomputable def F37 : Fn := ⟨P37, R37, fun k x => S37 k x.1⟩
theorem ok37 : FnOK Try.prog 37 F37 := evalF_ok (E := E37) (T := B37) E37_ok mix Try.func37 rfl (by kernel_rfl) (by kernel_rfl) (fun k => by kernel_rfl) (fun k x => by kernel_rfl)
noncomputable abbrev P99 : List PT := clonePs 142 Y1_0
noncomputable abbrev R99 : List RT := cloneRs 142 Y1_0
noncomputable def S99 (k : Nat) (xs : List Y1_6) : Option (((List Y1_6) × Unit) × Unit) := cloneSem 24 142 Y1_0 k (xs, ())
noncomputable def F99 : Fn := ⟨P99, R99, cloneSem 24 142 Y1_0⟩
noncomputable def E99 : Env := tab.env (fun _ => none) (fun _ => 0)
theorem E99_ok : EnvOK Try.prog E99 := envOK_of tabOK _ _ (fun f F h => by cases h)
theorem ok99 : FnOK Try.prog 99 F99 := clone_ok E99_ok mix Try.func99 rfl (by kernel_rfl) (by kernel_rfl) (fun k => by kernel_rfl) (fun k xs => by kernel_rfl) (fun k xs => by kernel_rfl)
noncomputable abbrev P68 : List PT := [.val ⟨true, Y1_4, false⟩]
noncomputable abbrev R68 : List RT := [.val ⟨true, Y1_4, true⟩]
noncomputable def S68 (k : Nat) (m : Int × (PN Int 8) × (List Y1_6) × Bool) : Option Y1_2 :=
 (S99 k m.2.2.1).bind fun q0 =>
 some (((m.1, m.2.1, q0.1.1, m.2.2.2), ()), ())
noncomputable def E68 : Env := tab.env (lk [(99, F99)]) (hintL [])
theorem E68_ok : EnvOK Try.prog E68 := envOK_of tabOK _ _ (allFn_lk (l := [(99, F99)]) ⟨ok99, trivial⟩)
noncomputable def B68 (k : Nat) : Tbl (RD R68 × MD P68) := .nil
noncomputable def F68 : Fn := ⟨P68, R68, fun k x => S68 k x.1⟩
theorem ok68 : FnOK Try.prog 68 F68 := evalF_ok (E := E68) (T := B68) E68_ok mix Try.func68 rfl (by kernel_rfl) (by kernel_rfl) (fun k => by kernel_rfl) (fun k x => by kernel_rfl)
noncomputable abbrev P69 : List PT := [.val ⟨false, (.int .i64), false⟩, .val ⟨false, (.int .i64), false⟩]
noncomputable abbrev R69 : List RT := [.val ⟨false, (.int .i64), true⟩]
noncomputable def S69 (k : Nat) (v : Int) (n : Int) : Option Y1_12 :=
 (bif decide (n ≤ (-64)) then
  some ((v, ()), ())
 else
  (bif decide (n ≥ 64) then
   some ((v, ()), ())
  else
   (bif decide (n < 0) then
    nneg (IntKind.i64.wrap (0 - n)) <|
    some ((ishr .i64 v (IntKind.i64.wrap (0 - n)), ()), ())
   else
    nneg n <|
    some ((IntKind.i64.wrap (ishl .u64 (IntKind.u64.wrap v) n), ()), ()))))
noncomputable def E69 : Env := tab.env (lk []) (hintL [])
theorem E69_ok : EnvOK Try.prog E69 := envOK_of tabOK _ _ (fun f F h => by cases h)
noncomputable def B69 (k : Nat) : Tbl (RD R69 × MD P69) := .nil
noncomputable def F69 : Fn := ⟨P69, R69, fun k x => S69 k x.1 x.2.1⟩
theorem ok69 : FnOK Try.prog 69 F69 := evalF_ok (E := E69) (T := B69) E69_ok mix Try.func69 rfl (by kernel_rfl) (by kernel_rfl) (fun k => by kernel_rfl) (fun k x => by kernel_rfl)
noncomputable abbrev P70 : List PT := [.val ⟨false, (.int .i64), false⟩, .val ⟨false, (.int .i64), false⟩]
noncomputable abbrev R70 : List RT := [.val ⟨false, (.int .i64), true⟩]
noncomputable def S70 (k : Nat) (v : Int) (n : Int) : Option Y1_12 :=
 (bif decide (n < 1) then
  some ((v, ()), ())
 else
  (bif decide (n > 64) then
   some ((v, ()), ())
  else
   nneg (IntKind.i64.wrap (64 - n)) <|
   nneg (IntKind.i64.wrap (64 - n)) <|
   some ((ishr .i64 (ishl .i64 v (IntKind.i64.wrap (64 - n))) (IntKind.i64.wrap (64 - n)), ()), ())))
noncomputable def E70 : Env := tab.env (lk []) (hintL [])
theorem E70_ok : EnvOK Try.prog E70 := envOK_of tabOK _ _ (fun f F h => by cases h)
noncomputable def B70 (k : Nat) : Tbl (RD R70 × MD P70) := .nil
noncomputable def F70 : Fn := ⟨P70, R70, fun k x => S70 k x.1 x.2.1⟩
theorem ok70 : FnOK Try.prog 70 F70 := evalF_ok (E := E70) (T := B70) E70_ok mix Try.func70 rfl (by kernel_rfl) (by kernel_rfl) (fun k => by kernel_rfl) (fun k x => by kernel_rfl)
noncomputable abbrev P71 : List PT := [.gv (.agg [.cell (.int .i64), .cell (.int .i64), .cell (.int .i64), .cell (.int .i64), .cell (.int .i64), .cell (.int .i64), .cell (.int .i64), .cell (.int .i64), .cell (.int .i64), .own 142 Y1_0, .cell .bool])]
noncomputable abbrev R71 : List RT := [.val ⟨true, Y1_4, true⟩]
noncomputable abbrev c71_L2 : Cut := ⟨[1, 2, 3], [.box 103 [.cell (.int .i64), .cell (.int .i64), .cell (.int .i64), .cell (.int .i64), .cell (.int .i64), .cell (.int .i64), .cell (.int .i64), .cell (.int .i64), .cell (.int .i64), .own 142 Y1_0, .cell .bool], .box 103 [.cell (.int .i64), .cell (.int .i64), .cell (.int .i64), .cell (.int .i64), .cell (.int .i64), .cell (.int .i64), .cell (.int .i64), .cell (.int .i64), .cell (.int .i64), .nil, .cell .bool], .cell (.int .i64)], [], 55⟩
noncomputable def l71_2 (k : Nat) (g2 : Int → Int → Int → Int → Int → Int → Int → Int → Int → (List Y1_6) → Bool → Int → Int → Int → Int → Int → Int → Int → Int → Int → Bool → Int → Option Y1_2) (m11 : Int) (m12 : Int) (m13 : Int) (m14 : Int) (m15 : Int) (m16 : Int) (m17 : Int) (m18 : Int) (m19 : Int) (m20 : List Y1_6) (m21 : Bool) (t2 : Int) (t2_1 : Int) (t2_2 : Int) (t2_3 : Int) (t2_4 : Int) (t2_5 : Int) (t2_6 : Int) (t2_7 : Int) (t2_8 : Int) (t2_9 : Bool) (n : Int) : Option Y1_2 :=
 (bif decide (n > 0) then
  ix m20 (IntKind.i64.wrap (n - 1)) <|
  (bif decide ((rd m20 (IntKind.i64.wrap (n - 1)) (0, 0, 0)).2.1 < m11) then
   ix m20 (IntKind.i64.wrap (n - 1)) <|
   (bif decide ((rd m20 (IntKind.i64.wrap (n - 1)) (0, 0, 0)).2.2 > 0) then
    some ((((rd m20 (IntKind.i64.wrap (n - 1)) (0, 0, 0)).1, (m12, m13, m14, m15, m16, m17, m18, m19), upd m20 (IntKind.i64.wrap (n - 1)) ((rd m20 (IntKind.i64.wrap (n - 1)) (0, 0, 0)).1, (rd m20 (IntKind.i64.wrap (n - 1)) (0, 0, 0)).2.1, IntKind.i64.wrap ((rd m20 (IntKind.i64.wrap (n - 1)) (0, 0, 0)).2.2 - 1)), m21), ()), ())
   else
    sx m20 0 (IntKind.i64.wrap (n - 1)) <|
    g2 m11 m12 m13 m14 m15 m16 m17 m18 m19 (m20.take (IntKind.i64.wrap (n - 1)).toNat) m21 t2 t2_1 t2_2 t2_3 t2_4 t2_5 t2_6 t2_7 t2_8 t2_9 ((m20.take (IntKind.i64.wrap (n - 1)).toNat).length : Int))
  else
   some (((m11, (m12, m13, m14, m15, m16, m17, m18, m19), m20, m21), ()), ()))
 else
  some (((m11, (m12, m13, m14, m15, m16, m17, m18, m19), m20, m21), ()), ()))
noncomputable def b71_2 (k : Nat) (g : ((Unit) × Y1_5 × (Int × Int × Int × Int × Int × Int × Int × Int × Int × Unit × Bool × Unit) × Int × Unit) → Option Y1_2) (d : (Unit) × Y1_5 × (Int × Int × Int × Int × Int × Int × Int × Int × Int × Unit × Bool × Unit) × Int × Unit) : Option Y1_2 := l71_2 k (fun m11 m12 m13 m14 m15 m16 m17 m18 m19 m20 m21 t2 t2_1 t2_2 t2_3 t2_4 t2_5 t2_6 t2_7 t2_8 t2_9 n => g ((), (m11, m12, m13, m14, m15, m16, m17, m18, m19, m20, m21, ()), (t2, t2_1, t2_2, t2_3, t2_4, t2_5, t2_6, t2_7, t2_8, (), t2_9, ()), n, ())) d.2.1.1 d.2.1.2.1 d.2.1.2.2.1 d.2.1.2.2.2.1 d.2.1.2.2.2.2.1 d.2.1.2.2.2.2.2.1 d.2.1.2.2.2.2.2.2.1 d.2.1.2.2.2.2.2.2.2.1 d.2.1.2.2.2.2.2.2.2.2.1 d.2.1.2.2.2.2.2.2.2.2.2.1 d.2.1.2.2.2.2.2.2.2.2.2.2.1 d.2.2.1.1 d.2.2.1.2.1 d.2.2.1.2.2.1 d.2.2.1.2.2.2.1 d.2.2.1.2.2.2.2.1 d.2.2.1.2.2.2.2.2.1 d.2.2.1.2.2.2.2.2.2.1 d.2.2.1.2.2.2.2.2.2.2.1 d.2.2.1.2.2.2.2.2.2.2.2.1 d.2.2.1.2.2.2.2.2.2.2.2.2.2.1 d.2.2.2.1
noncomputable def L71_2 (k : Nat) (j : Nat) (m11 : Int) (m12 : Int) (m13 : Int) (m14 : Int) (m15 : Int) (m16 : Int) (m17 : Int) (m18 : Int) (m19 : Int) (m20 : List Y1_6) (m21 : Bool) (t2 : Int) (t2_1 : Int) (t2_2 : Int) (t2_3 : Int) (t2_4 : Int) (t2_5 : Int) (t2_6 : Int) (t2_7 : Int) (t2_8 : Int) (t2_9 : Bool) (n : Int) : Option Y1_2 := iter (R := ((Int × (PN Int 8) × (List Y1_6) × Bool) × Unit) × Unit) c71_L2 (b71_2 k) j ((), (m11, m12, m13, m14, m15, m16, m17, m18, m19, m20, m21, ()), (t2, t2_1, t2_2, t2_3, t2_4, t2_5, t2_6, t2_7, t2_8, (), t2_9, ()), n, ())
theorem L71_2_s (k : Nat) (j : Nat) (m11 : Int) (m12 : Int) (m13 : Int) (m14 : Int) (m15 : Int) (m16 : Int) (m17 : Int) (m18 : Int) (m19 : Int) (m20 : List Y1_6) (m21 : Bool) (t2 : Int) (t2_1 : Int) (t2_2 : Int) (t2_3 : Int) (t2_4 : Int) (t2_5 : Int) (t2_6 : Int) (t2_7 : Int) (t2_8 : Int) (t2_9 : Bool) (n : Int) : L71_2 k (j + 1) m11 m12 m13 m14 m15 m16 m17 m18 m19 m20 m21 t2 t2_1 t2_2 t2_3 t2_4 t2_5 t2_6 t2_7 t2_8 t2_9 n = l71_2 k (L71_2 k j) m11 m12 m13 m14 m15 m16 m17 m18 m19 m20 m21 t2 t2_1 t2_2 t2_3 t2_4 t2_5 t2_6 t2_7 t2_8 t2_9 n := iter_succ _ _ _ _
noncomputable def S71 (k : Nat) (m : Int) (m1 : Int) (m2 : Int) (m3 : Int) (m4 : Int) (m5 : Int) (m6 : Int) (m7 : Int) (m8 : Int) (m9 : List Y1_6) (m10 : Bool) : Option Y1_2 :=
 L71_2 k k m m1 m2 m3 m4 m5 m6 m7 m8 m9 m10 0 0 0 0 0 0 0 0 0 false (m9.length : Int)
noncomputable def E71 : Env := tab.env (lk []) (hintL [(52, 1)])
theorem E71_ok : EnvOK Try.prog E71 := envOK_of tabOK _ _ (fun f F h => by cases h)
noncomputable def B71 (k : Nat) : Tbl (RD R71 × MD P71) := (.loop 2 c71_L2 (b71_2 k) (fun g => .nil) .nil)
noncomputable def F71 : Fn := ⟨P71, R71, fun k x => S71 k x.1.1 x.1.2.1 x.1.2.2.1 x.1.2.2.2.1 x.1.2.2.2.2.1 x.1.2.2.2.2.2.1 x.1.2.2.2.2.2.2.1 x.1.2.2.2.2.2.2.2.1 x.1.2.2.2.2.2.2.2.2.1 x.1.2.2.2.2.2.2.2.2.2.1 x.1.2.2.2.2.2.2.2.2.2.2.1⟩
theorem ok71 : FnOK Try.prog 71 F71 := evalF_ok (E := E71) (T := B71) E71_ok mix Try.func71 rfl (by kernel_rfl) (by kernel_rfl) (fun k => by kernel_rfl) (fun k x => by kernel_rfl)
noncomputable abbrev P38 : List PT := [.val ⟨false, Y1_7, false⟩, .val ⟨true, Y1_4, false⟩]
noncomputable abbrev R38 : List RT := [.val ⟨true, Y1_4, true⟩, .val ⟨true, (.pair (.int .i64) Y1_0), true⟩, .val ⟨false, .bool, true⟩]
noncomputable def S38 (k : Nat) (l_ : List Y1_1) (m : Int × (PN Int 8) × (List Y1_6) × Bool) : Option (((Int × (PN Int 8) × (List Y1_6) × Bool) × Y1_1 × Bool × Unit) × Unit) :=
 (bif m.2.2.2 then
  (S68 k m).bind fun q0 =>
  some ((q0.1.1, (0, 0, 0, 0), false, ()), ())
 else
  (bif decide (m.1 < 0) then
   (S68 k m).bind fun q1 =>
   some ((q1.1.1, (0, 0, 0, 0), false, ()), ())
  else
   (bif decide (m.1 ≥ (l_.length : Int)) then
    (S68 k m).bind fun q2 =>
    some ((q2.1.1, (0, 0, 0, 0), false, ()), ())
   else
    ix l_ m.1 <|
    (S60 k (rd l_ m.1 (0, 0, 0, 0))).bind fun q3 =>
    (bif !q3.1.1 then
     (S68 k m).bind fun q4 =>
     some ((q4.1.1, (0, 0, 0, 0), false, ()), ())
    else
     (S68 k m).bind fun q5 =>
     ix l_ q5.1.1.1 <|
     ax 8 (rd l_ q5.1.1.1 (0, 0, 0, 0)).2.1 <|
     ax 8 (Int.tmod (rd l_ q5.1.1.1 (0, 0, 0, 0)).2.2.1 8) <|
     (bif (rd l_ q5.1.1.1 (0, 0, 0, 0)).1 == 0 then
      (S71 k q5.1.1.1 q5.1.1.2.1.1 q5.1.1.2.1.2.1 q5.1.1.2.1.2.2.1 q5.1.1.2.1.2.2.2.1 q5.1.1.2.1.2.2.2.2.1 q5.1.1.2.1.2.2.2.2.2.1 q5.1.1.2.1.2.2.2.2.2.2.1 q5.1.1.2.1.2.2.2.2.2.2.2 q5.1.1.2.2.1 true).bind fun q6 =>
      some ((q6.1.1, rd l_ q5.1.1.1 (0, 0, 0, 0), true, ()), ())
     else
      (bif (rd l_ q5.1.1.1 (0, 0, 0, 0)).1 == 1 then
       (S71 k (IntKind.i64.wrap (q5.1.1.1 + 1)) (aset (α := Int) 8 q5.1.1.2.1 (rd l_ q5.1.1.1 (0, 0, 0, 0)).2.1 (rd l_ q5.1.1.1 (0, 0, 0, 0)).2.2.2).1 (aset (α := Int) 8 q5.1.1.2.1 (rd l_ q5.1.1.1 (0, 0, 0, 0)).2.1 (rd l_ q5.1.1.1 (0, 0, 0, 0)).2.2.2).2.1 (aset (α := Int) 8 q5.1.1.2.1 (rd l_ q5.1.1.1 (0, 0, 0, 0)).2.1 (rd l_ q5.1.1.1 (0, 0, 0, 0)).2.2.2).2.2.1 (aset (α := Int) 8 q5.1.1.2.1 (rd l_ q5.1.1.1 (0, 0, 0, 0)).2.1 (rd l_ q5.1.1.1 (0, 0, 0, 0)).2.2.2).2.2.2.1 (aset (α := Int) 8 q5.1.1.2.1 (rd l_ q5.1.1.1 (0, 0, 0, 0)).2.1 (rd l_ q5.1.1.1 (0, 0, 0, 0)).2.2.2).2.2.2.2.1 (aset (α := Int) 8 q5.1.1.2.1 (rd l_ q5.1.1.1 (0, 0, 0, 0)).2.1 (rd l_ q5.1.1.1 (0, 0, 0, 0)).2.2.2).2.2.2.2.2.1 (aset (α := Int) 8 q5.1.1.2.1 (rd l_ q5.1.1.1 (0, 0, 0, 0)).2.1 (rd l_ q5.1.1.1 (0, 0, 0, 0)).2.2.2).2.2.2.2.2.2.1 (aset (α := Int) 8 q5.1.1.2.1 (rd l_ q5.1.1.1 (0, 0, 0, 0)).2.1 (rd l_ q5.1.1.1 (0, 0, 0, 0)).2.2.2).2.2.2.2.2.2.2 q5.1.1.2.2.1 q5.1.1.2.2.2).bind fun q7 =>
       some ((q7.1.1, rd l_ q5.1.1.1 (0, 0, 0, 0), true, ()), ())
      else
       (bif (rd l_ q5.1.1.1 (0, 0, 0, 0)).1 == 2 then
        (S71 k (IntKind.i64.wrap (q5.1.1.1 + 1)) (aset (α := Int) 8 q5.1.1.2.1 (rd l_ q5.1.1.1 (0, 0, 0, 0)).2.1 (IntKind.i64.wrap (IntKind.u64.wrap ((IntKind.u64.wrap (aget (α := Int) 8 q5.1.1.2.1 (rd l_ q5.1.1.1 (0, 0, 0, 0)).2.1 0)) + (IntKind.u64.wrap (aget (α := Int) 8 q5.1.1.2.1 (Int.tmod (rd l_ q5.1.1.1 (0, 0, 0, 0)).2.2.1 8) 0)))))).1 (aset (α := Int) 8 q5.1.1.2.1 (rd l_ q5.1.1.1 (0, 0, 0, 0)).2.1 (IntKind.i64.wrap (IntKind.u64.wrap ((IntKind.u64.wrap (aget (α := Int) 8 q5.1.1.2.1 (rd l_ q5.1.1.1 (0, 0, 0, 0)).2.1 0)) + (IntKind.u64.wrap (aget (α := Int) 8 q5.1.1.2.1 (Int.tmod (rd l_ q5.1.1.1 (0, 0, 0, 0)).2.2.1 8) 0)))))).2.1 (aset (α := Int) 8 q5.1.1.2.1 (rd l_ q5.1.1.1 (0, 0, 0, 0)).2.1 (IntKind.i64.wrap (IntKind.u64.wrap ((IntKind.u64.wrap (aget (α := Int) 8 q5.1.1.2.1 (rd l_ q5.1.1.1 (0, 0, 0, 0)).2.1 0)) + (IntKind.u64.wrap (aget (α := Int) 8 q5.1.1.2.1 (Int.tmod (rd l_ q5.1.1.1 (0, 0, 0, 0)).2.2.1 8) 0)))))).2.2.1 (aset (α := Int) 8 q5.1.1.2.1 (rd l_ q5.1.1.1 (0, 0, 0, 0)).2.1 (IntKind.i64.wrap (IntKind.u64.wrap ((IntKind.u64.wrap (aget (α := Int) 8 q5.1.1.2.1 (rd l_ q5.1.1.1 (0, 0, 0, 0)).2.1 0)) + (IntKind.u64.wrap (aget (α := Int) 8 q5.1.1.2.1 (Int.tmod (rd l_ q5.1.1.1 (0, 0, 0, 0)).2.2.1 8) 0)))))).2.2.2.1 (aset (α := Int) 8 q5.1.1.2.1 (rd l_ q5.1.1.1 (0, 0, 0, 0)).2.1 (IntKind.i64.wrap (IntKind.u64.wrap ((IntKind.u64.wrap (aget (α := Int) 8 q5.1.1.2.1 (rd l_ q5.1.1.1 (0, 0, 0, 0)).2.1 0)) + (IntKind.u64.wrap (aget (α := Int) 8 q5.1.1.2.1 (Int.tmod (rd l_ q5.1.1.1 (0, 0, 0, 0)).2.2.1 8) 0)))))).2.2.2.2.1 (aset (α := Int) 8 q5.1.1.2.1 (rd l_ q5.1.1.1 (0, 0, 0, 0)).2.1 (IntKind.i64.wrap (IntKind.u64.wrap ((IntKind.u64.wrap (aget (α := Int) 8 q5.1.1.2.1 (rd l_ q5.1.1.1 (0, 0, 0, 0)).2.1 0)) + (IntKind.u64.wrap (aget (α := Int) 8 q5.1.1.2.1 (Int.tmod (rd l_ q5.1.1.1 (0, 0, 0, 0)).2.2.1 8) 0)))))).2.2.2.2.2.1 (aset (α := Int) 8 q5.1.1.2.1 (rd l_ q5.1.1.1 (0, 0, 0, 0)).2.1 (IntKind.i64.wrap (IntKind.u64.wrap ((IntKind.u64.wrap (aget (α := Int) 8 q5.1.1.2.1 (rd l_ q5.1.1.1 (0, 0, 0, 0)).2.1 0)) + (IntKind.u64.wrap (aget (α := Int) 8 q5.1.1.2.1 (Int.tmod (rd l_ q5.1.1.1 (0, 0, 0, 0)).2.2.1 8) 0)))))).2.2.2.2.2.2.1 (aset (α := Int) 8 q5.1.1.2.1 (rd l_ q5.1.1.1 (0, 0, 0, 0)).2.1 (IntKind.i64.wrap (IntKind.u64.wrap ((IntKind.u64.wrap (aget (α := Int) 8 q5.1.1.2.1 (rd l_ q5.1.1.1 (0, 0, 0, 0)).2.1 0)) + (IntKind.u64.wrap (aget (α := Int) 8 q5.1.1.2.1 (Int.tmod (rd l_ q5.1.1.1 (0, 0, 0, 0)).2.2.1 8) 0)))))).2.2.2.2.2.2.2 q5.1.1.2.2.1 q5.1.1.2.2.2).bind fun q8 =>
        some ((q8.1.1, rd l_ q5.1.1.1 (0, 0, 0, 0), true, ()), ())
       else
        (bif (rd l_ q5.1.1.1 (0, 0, 0, 0)).1 == 3 then
         (S71 k (IntKind.i64.wrap (q5.1.1.1 + 1)) (aset (α := Int) 8 q5.1.1.2.1 (rd l_ q5.1.1.1 (0, 0, 0, 0)).2.1 (IntKind.i64.wrap (IntKind.u64.wrap ((IntKind.u64.wrap (aget (α := Int) 8 q5.1.1.2.1 (rd l_ q5.1.1.1 (0, 0, 0, 0)).2.1 0)) - (IntKind.u64.wrap (aget (α := Int) 8 q5.1.1.2.1 (Int.tmod (rd l_ q5.1.1.1 (0, 0, 0, 0)).2.2.1 8) 0)))))).1 (aset (α := Int) 8 q5.1.1.2.1 (rd l_ q5.1.1.1 (0, 0, 0, 0)).2.1 (IntKind.i64.wrap (IntKind.u64.wrap ((IntKind.u64.wrap (aget (α := Int) 8 q5.1.1.2.1 (rd l_ q5.1.1.1 (0, 0, 0, 0)).2.1 0)) - (IntKind.u64.wrap (aget (α := Int) 8 q5.1.1.2.1 (Int.tmod (rd l_ q5.1.1.1 (0, 0, 0, 0)).2.2.1 8) 0)))))).2.1 (aset (α := Int) 8 q5.1.1.2.1 (rd l_ q5.1.1.1 (0, 0, 0, 0)).2.1 (IntKind.i64.wrap (IntKind.u64.wrap ((IntKind.u64.wrap (aget (α := Int) 8 q5.1.1.2.1 (rd l_ q5.1.1.1 (0, 0, 0, 0)).2.1 0)) - (IntKind.u64.wrap (aget (α := Int) 8 q5.1.1.2.1 (Int.tmod (rd l_ q5.1.1.1 (0, 0, 0, 0)).2.2.1 8) 0)))))).2.2.1 (aset (α := Int) 8 q5.1.1.2.1 (rd l_ q5.1.1.1 (0, 0, 0, 0)).2.1 (IntKind.i64.wrap (IntKind.u64.wrap ((IntKind.u64.wrap (aget (α := Int) 8 q5.1.1.2.1 (rd l_ q5.1.1.1 (0, 0, 0, 0)).2.1 0)) - (IntKind.u64.wrap (aget (α := Int) 8 q5.1.1.2.1 (Int.tmod (rd l_ q5.1.1.1 (0, 0, 0, 0)).2.2.1 8) 0)))))).2.2.2.1 (aset (α := Int) 8 q5.1.1.2.1 (rd l_ q5.1.1.1 (0, 0, 0, 0)).2.1 (IntKind.i64.wrap (IntKind.u64.wrap ((IntKind.u64.wrap (aget (α := Int) 8 q5.1.1.2.1 (rd l_ q5.1.1.1 (0, 0, 0, 0)).2.1 0)) - (IntKind.u64.wrap (aget (α := Int) 8 q5.1.1.2.1 (Int.tmod (rd l_ q5.1.1.1 (0, 0, 0, 0)).2.2.1 8) 0)))))).2.2.2.2.1 (aset (α := Int) 8 q5.1.1.2.1 (rd l_ q5.1.1.1 (0, 0, 0, 0)).2.1 (IntKind.i64.wrap (IntKind.u64.wrap ((IntKind.u64.wrap (aget (α := Int) 8 q5.1.1.2.1 (rd l_ q5.1.1.1 (0, 0, 0, 0)).2.1 0)) - (IntKind.u64.wrap (aget (α := Int) 8 q5.1.1.2.1 (Int.tmod (rd l_ q5.1.1.1 (0, 0, 0, 0)).2.2.1 8) 0)))))).2.2.2.2.2.1 (aset (α := Int) 8 q5.1.1.2.1 (rd l_ q5.1.1.1 (0, 0, 0, 0)).2.1 (IntKind.i64.wrap (IntKind.u64.wrap ((IntKind.u64.wrap (aget (α := Int) 8 q5.1.1.2.1 (rd l_ q5.1.1.1 (0, 0, 0, 0)).2.1 0)) - (IntKind.u64.wrap (aget (α := Int) 8 q5.1.1.2.1 (Int.tmod (rd l_ q5.1.1.1 (0, 0, 0, 0)).2.2.1 8) 0)))))).2.2.2.2.2.2.1 (aset (α := Int) 8 q5.1.1.2.1 (rd l_ q5.1.1.1 (0, 0, 0, 0)).2.1 (IntKind.i64.wrap (IntKind.u64.wrap ((IntKind.u64.wrap (aget (α := Int) 8 q5.1.1.2.1 (rd l_ q5.1.1.1 (0, 0, 0, 0)).2.1 0)) - (IntKind.u64.wrap (aget (α := Int) 8 q5.1.1.2.1 (Int.tmod (rd l_ q5.1.1.1 (0, 0, 0, 0)).2.2.1 8) 0)))))).2.2.2.2.2.2.2 q5.1.1.2.2.1 q5.1.1.2.2.2).bind fun q9 =>
         some ((q9.1.1, rd l_ q5.1.1.1 (0, 0, 0, 0), true, ()), ())
        else
         (bif (rd l_ q5.1.1.1 (0, 0, 0, 0)).1 == 4 then
          (S71 k (IntKind.i64.wrap (q5.1.1.1 + 1)) (aset (α := Int) 8 q5.1.1.2.1 (rd l_ q5.1.1.1 (0, 0, 0, 0)).2.1 (IntKind.i64.wrap (IntKind.u64.wrap ((IntKind.u64.wrap (aget (α := Int) 8 q5.1.1.2.1 (rd l_ q5.1.1.1 (0, 0, 0, 0)).2.1 0)) * (IntKind.u64.wrap (aget (α := Int) 8 q5.1.1.2.1 (Int.tmod (rd l_ q5.1.1.1 (0, 0, 0, 0)).2.2.1 8) 0)))))).1 (aset (α := Int) 8 q5.1.1.2.1 (rd l_ q5.1.1.1 (0, 0, 0, 0)).2.1 (IntKind.i64.wrap (IntKind.u64.wrap ((IntKind.u64.wrap (aget (α := Int) 8 q5.1.1.2.1 (rd l_ q5.1.1.1 (0, 0, 0, 0)).2.1 0)) * (IntKind.u64.wrap (aget (α := Int) 8 q5.1.1.2.1 (Int.tmod (rd l_ q5.1.1.1 (0, 0, 0, 0)).2.2.1 8) 0)))))).2.1 (aset (α := Int) 8 q5.1.1.2.1 (rd l_ q5.1.1.1 (0, 0, 0, 0)).2.1 (IntKind.i64.wrap (IntKind.u64.wrap ((IntKind.u64.wrap (aget (α := Int) 8 q5.1.1.2.1 (rd l_ q5.1.1.1 (0, 0, 0, 0)).2.1 0)) * (IntKind.u64.wrap (aget (α := Int) 8 q5.1.1.2.1 (Int.tmod (rd l_ q5.1.1.1 (0, 0, 0, 0)).2.2.1 8) 0)))))).2.2.1 (aset (α := Int) 8 q5.1.1.2.1 (rd l_ q5.1.1.1 (0, 0, 0, 0)).2.1 (IntKind.i64.wrap (IntKind.u64.wrap ((IntKind.u64.wrap (aget (α := Int) 8 q5.1.1.2.1 (rd l_ q5.1.1.1 (0, 0, 0, 0)).2.1 0)) * (IntKind.u64.wrap (aget (α := Int) 8 q5.1.1.2.1 (Int.tmod (rd l_ q5.1.1.1 (0, 0, 0, 0)).2.2.1 8) 0)))))).2.2.2.1 (aset (α := Int) 8 q5.1.1.2.1 (rd l_ q5.1.1.1 (0, 0, 0, 0)).2.1 (IntKind.i64.wrap (IntKind.u64.wrap ((IntKind.u64.wrap (aget (α := Int) 8 q5.1.1.2.1 (rd l_ q5.1.1.1 (0, 0, 0, 0)).2.1 0)) * (IntKind.u64.wrap (aget (α := Int) 8 q5.1.1.2.1 (Int.tmod (rd l_ q5.1.1.1 (0, 0, 0, 0)).2.2.1 8) 0)))))).2.2.2.2.1 (aset (α := Int) 8 q5.1.1.2.1 (rd l_ q5.1.1.1 (0, 0, 0, 0)).2.1 (IntKind.i64.wrap (IntKind.u64.wrap ((IntKind.u64.wrap (aget (α := Int) 8 q5.1.1.2.1 (rd l_ q5.1.1.1 (0, 0, 0, 0)).2.1 0)) * (IntKind.u64.wrap (aget (α := Int) 8 q5.1.1.2.1 (Int.tmod (rd l_ q5.1.1.1 (0, 0, 0, 0)).2.2.1 8) 0)))))).2.2.2.2.2.1 (aset (α := Int) 8 q5.1.1.2.1 (rd l_ q5.1.1.1 (0, 0, 0, 0)).2.1 (IntKind.i64.wrap (IntKind.u64.wrap ((IntKind.u64.wrap (aget (α := Int) 8 q5.1.1.2.1 (rd l_ q5.1.1.1 (0, 0, 0, 0)).2.1 0)) * (IntKind.u64.wrap (aget (α := Int) 8 q5.1.1.2.1 (Int.tmod (rd l_ q5.1.1.1 (0, 0, 0, 0)).2.2.1 8) 0)))))).2.2.2.2.2.2.1 (aset (α := Int) 8 q5.1.1.2.1 (rd l_ q5.1.1.1 (0, 0, 0, 0)).2.1 (IntKind.i64.wrap (IntKind.u64.wrap ((IntKind.u64.wrap (aget (α := Int) 8 q5.1.1.2.1 (rd l_ q5.1.1.1 (0, 0, 0, 0)).2.1 0)) * (IntKind.u64.wrap (aget (α := Int) 8 q5.1.1.2.1 (Int.tmod (rd l_ q5.1.1.1 (0, 0, 0, 0)).2.2.1 8) 0)))))).2.2.2.2.2.2.2 q5.1.1.2.2.1 q5.1.1.2.2.2).bind fun q10 =>
          some ((q10.1.1, rd l_ q5.1.1.1 (0, 0, 0, 0), true, ()), ())
         else
          (bif (rd l_ q5.1.1.1 (0, 0, 0, 0)).1 == 5 then
           (S69 k (aget (α := Int) 8 q5.1.1.2.1 (rd l_ q5.1.1.1 (0, 0, 0, 0)).2.1 0) (rd l_ q5.1.1.1 (0, 0, 0, 0)).2.2.2).bind fun q11 =>
           (S71 k (IntKind.i64.wrap (q5.1.1.1 + 1)) (aset (α := Int) 8 q5.1.1.2.1 (rd l_ q5.1.1.1 (0, 0, 0, 0)).2.1 q11.1.1).1 (aset (α := Int) 8 q5.1.1.2.1 (rd l_ q5.1.1.1 (0, 0, 0, 0)).2.1 q11.1.1).2.1 (aset (α := Int) 8 q5.1.1.2.1 (rd l_ q5.1.1.1 (0, 0, 0, 0)).2.1 q11.1.1).2.2.1 (aset (α := Int) 8 q5.1.1.2.1 (rd l_ q5.1.1.1 (0, 0, 0, 0)).2.1 q11.1.1).2.2.2.1 (aset (α := Int) 8 q5.1.1.2.1 (rd l_ q5.1.1.1 (0, 0, 0, 0)).2.1 q11.1.1).2.2.2.2.1 (aset (α := Int) 8 q5.1.1.2.1 (rd l_ q5.1.1.1 (0, 0, 0, 0)).2.1 q11.1.1).2.2.2.2.2.1 (aset (α := Int) 8 q5.1.1.2.1 (rd l_ q5.1.1.1 (0, 0, 0, 0)).2.1 q11.1.1).2.2.2.2.2.2.1 (aset (α := Int) 8 q5.1.1.2.1 (rd l_ q5.1.1.1 (0, 0, 0, 0)).2.1 q11.1.1).2.2.2.2.2.2.2 q5.1.1.2.2.1 q5.1.1.2.2.2).bind fun q12 =>
           some ((q12.1.1, rd l_ q5.1.1.1 (0, 0, 0, 0), true, ()), ())
          else
           (bif (rd l_ q5.1.1.1 (0, 0, 0, 0)).1 == 6 then
            (S70 k (aget (α := Int) 8 q5.1.1.2.1 (rd l_ q5.1.1.1 (0, 0, 0, 0)).2.1 0) (rd l_ q5.1.1.1 (0, 0, 0, 0)).2.2.2).bind fun q13 =>
            (S71 k (IntKind.i64.wrap (q5.1.1.1 + 1)) (aset (α := Int) 8 q5.1.1.2.1 (rd l_ q5.1.1.1 (0, 0, 0, 0)).2.1 q13.1.1).1 (aset (α := Int) 8 q5.1.1.2.1 (rd l_ q5.1.1.1 (0, 0, 0, 0)).2.1 q13.1.1).2.1 (aset (α := Int) 8 q5.1.1.2.1 (rd l_ q5.1.1.1 (0, 0, 0, 0)).2.1 q13.1.1).2.2.1 (aset (α := Int) 8 q5.1.1.2.1 (rd l_ q5.1.1.1 (0, 0, 0, 0)).2.1 q13.1.1).2.2.2.1 (aset (α := Int) 8 q5.1.1.2.1 (rd l_ q5.1.1.1 (0, 0, 0, 0)).2.1 q13.1.1).2.2.2.2.1 (aset (α := Int) 8 q5.1.1.2.1 (rd l_ q5.1.1.1 (0, 0, 0, 0)).2.1 q13.1.1).2.2.2.2.2.1 (aset (α := Int) 8 q5.1.1.2.1 (rd l_ q5.1.1.1 (0, 0, 0, 0)).2.1 q13.1.1).2.2.2.2.2.2.1 (aset (α := Int) 8 q5.1.1.2.1 (rd l_ q5.1.1.1 (0, 0, 0, 0)).2.1 q13.1.1).2.2.2.2.2.2.2 q5.1.1.2.2.1 q5.1.1.2.2.2).bind fun q14 =>
            some ((q14.1.1, rd l_ q5.1.1.1 (0, 0, 0, 0), true, ()), ())
           else
            (bif (rd l_ q5.1.1.1 (0, 0, 0, 0)).1 == 7 then
             (bif (aget (α := Int) 8 q5.1.1.2.1 (rd l_ q5.1.1.1 (0, 0, 0, 0)).2.1 0) == 0 then
              (S71 k (IntKind.i64.wrap ((IntKind.i64.wrap (q5.1.1.1 + 1)) + (rd l_ q5.1.1.1 (0, 0, 0, 0)).2.2.2)) q5.1.1.2.1.1 q5.1.1.2.1.2.1 q5.1.1.2.1.2.2.1 q5.1.1.2.1.2.2.2.1 q5.1.1.2.1.2.2.2.2.1 q5.1.1.2.1.2.2.2.2.2.1 q5.1.1.2.1.2.2.2.2.2.2.1 q5.1.1.2.1.2.2.2.2.2.2.2 q5.1.1.2.2.1 q5.1.1.2.2.2).bind fun q15 =>
              some ((q15.1.1, rd l_ q5.1.1.1 (0, 0, 0, 0), true, ()), ())
             else
              (S71 k (IntKind.i64.wrap (q5.1.1.1 + 1)) q5.1.1.2.1.1 q5.1.1.2.1.2.1 q5.1.1.2.1.2.2.1 q5.1.1.2.1.2.2.2.1 q5.1.1.2.1.2.2.2.2.1 q5.1.1.2.1.2.2.2.2.2.1 q5.1.1.2.1.2.2.2.2.2.2.1 q5.1.1.2.1.2.2.2.2.2.2.2 q5.1.1.2.2.1 q5.1.1.2.2.2).bind fun q16 =>
              some ((q16.1.1, rd l_ q5.1.1.1 (0, 0, 0, 0), true, ()), ()))
            else
             (bif (rd l_ q5.1.1.1 (0, 0, 0, 0)).1 == 8 then
              ap q5.1.1.2.2.1 ([(IntKind.i64.wrap (q5.1.1.1 + 1), IntKind.i64.wrap (q5.1.1.1 + (rd l_ q5.1.1.1 (0, 0, 0, 0)).2.2.1), IntKind.i64.wrap ((rd l_ q5.1.1.1 (0, 0, 0, 0)).2.2.2 - 1))] : List Y1_6) 24 fun r17 =>
              (S71 k (IntKind.i64.wrap (q5.1.1.1 + 1)) q5.1.1.2.1.1 q5.1.1.2.1.2.1 q5.1.1.2.1.2.2.1 q5.1.1.2.1.2.2.2.1 q5.1.1.2.1.2.2.2.2.1 q5.1.1.2.1.2.2.2.2.2.1 q5.1.1.2.1.2.2.2.2.2.2.1 q5.1.1.2.1.2.2.2.2.2.2.2 r17 q5.1.1.2.2.2).bind fun q18 =>
              some ((q18.1.1, rd l_ q5.1.1.1 (0, 0, 0, 0), true, ()), ())
             else
              (S71 k (IntKind.i64.wrap (q5.1.1.1 + 1)) q5.1.1.2.1.1 q5.1.1.2.1.2.1 q5.1.1.2.1.2.2.1 q5.1.1.2.1.2.2.2.1 q5.1.1.2.1.2.2.2.2.1 q5.1.1.2.1.2.2.2.2.2.1 q5.1.1.2.1.2.2.2.2.2.2.1 q5.1.1.2.1.2.2.2.2.2.2.2 q5.1.1.2.2.1 q5.1.1.2.2.2).bind fun q19 =>
              some ((q19.1.1, rd l_ q5.1.1.1 (0, 0, 0, 0), true, ()), ()))))))))))))))
noncomputable def E38 : Env := tab.env (lk [(60, F60), (68, F68), (69, F69), (70, F70), (71, F71)]) (hintL [])
theorem E38_ok : EnvOK Try.prog E38 := envOK_of tabOK _ _ (allFn_lk (l := [(60, F60), (68, F68), (69, F69), (70, F70), (71, F71)]) ⟨ok60, ok68, ok69, ok70, ok71, trivial⟩)
noncomputable def B38 (k : Nat) : Tbl (RD R38 × MD P38) := .nil
noncomputable def F38 : Fn := ⟨P38, R38, fun k x => S38 k x.1 x.2.1⟩
theorem ok38 : FnOK Try.prog 38 F38 := evalF_ok (E := E38) (T := B38) E38_ok mix Try.func38 rfl (by kernel_rfl) (by kernel_rfl) (fun k => by kernel_rfl) (fun k x => by kernel_rfl)
noncomputable abbrev P16 : List PT := [.val ⟨false, Y1_7, false⟩, .val ⟨false, (.int .i64), false⟩]
noncomputable abbrev R16 : List RT := [.val ⟨false, (.int .i64), true⟩, .val ⟨false, (.int .i64), true⟩, .val ⟨false, .bool, true⟩]
noncomputable abbrev c16_L5 : Cut := ⟨[0, 5, 6, 7], [.cell Y1_7, .cell (.int .i64), .cell .bool, .box 103 [.cell (.int .i64), .cell (.int .i64), .cell (.int .i64), .cell (.int .i64), .cell (.int .i64), .cell (.int .i64), .cell (.int .i64), .cell (.int .i64), .cell (.int .i64), .own 142 Y1_0, .cell .bool]], [], 33⟩
noncomputable def l16_5 (k : Nat) (g5 : (List Y1_1) → Int → Bool → Int → Int → Int → Int → Int → Int → Int → Int → Int → (List Y1_6) → Bool → Option Y1_9) (l_1 : List Y1_1) (ticks : Int) (ok : Bool) (m : Int) (m1 : Int) (m2 : Int) (m3 : Int) (m4 : Int) (m5 : Int) (m6 : Int) (m7 : Int) (m8 : Int) (m9 : List Y1_6) (m10 : Bool) : Option Y1_9 :=
 (bif ok then
  (bif !m10 then
   (S38 k l_1 (m, (m1, m2, m3, m4, m5, m6, m7, m8), m9, m10)).bind fun q2 =>
   g5 l_1 (IntKind.i64.wrap (ticks + 1)) q2.1.2.2.1 q2.1.1.1 q2.1.1.2.1.1 q2.1.1.2.1.2.1 q2.1.1.2.1.2.2.1 q2.1.1.2.1.2.2.2.1 q2.1.1.2.1.2.2.2.2.1 q2.1.1.2.1.2.2.2.2.2.1 q2.1.1.2.1.2.2.2.2.2.2.1 q2.1.1.2.1.2.2.2.2.2.2.2 q2.1.1.2.2.1 q2.1.1.2.2.2
  else
   some ((m1, ticks, ok, ()), ()))
 else
  some ((m1, ticks, ok, ()), ()))
noncomputable def b16_5 (k : Nat) (g : ((Unit) × (List Y1_1) × Int × Bool × Y1_5 × Unit) → Option Y1_9) (d : (Unit) × (List Y1_1) × Int × Bool × Y1_5 × Unit) : Option Y1_9 := l16_5 k (fun l_1 ticks ok m m1 m2 m3 m4 m5 m6 m7 m8 m9 m10 => g ((), l_1, ticks, ok, (m, m1, m2, m3, m4, m5, m6, m7, m8, m9, m10, ()), ())) d.2.1 d.2.2.1 d.2.2.2.1 d.2.2.2.2.1.1 d.2.2.2.2.1.2.1 d.2.2.2.2.1.2.2.1 d.2.2.2.2.1.2.2.2.1 d.2.2.2.2.1.2.2.2.2.1 d.2.2.2.2.1.2.2.2.2.2.1 d.2.2.2.2.1.2.2.2.2.2.2.1 d.2.2.2.2.1.2.2.2.2.2.2.2.1 d.2.2.2.2.1.2.2.2.2.2.2.2.2.1 d.2.2.2.2.1.2.2.2.2.2.2.2.2.2.1 d.2.2.2.2.1.2.2.2.2.2.2.2.2.2.2.1
noncomputable def L16_5 (k : Nat) (j : Nat) (l_1 : List Y1_1) (ticks : Int) (ok : Bool) (m : Int) (m1 : Int) (m2 : Int) (m3 : Int) (m4 : Int) (m5 : Int) (m6 : Int) (m7 : Int) (m8 : Int) (m9 : List Y1_6) (m10 : Bool) : Option Y1_9 := iter (R := (Int × Int × Bool × Unit) × Unit) c16_L5 (b16_5 k) j ((), l_1, ticks, ok, (m, m1, m2, m3, m4, m5, m6, m7, m8, m9, m10, ()), ())
theorem L16_5_s (k : Nat) (j : Nat) (l_1 : List Y1_1) (ticks : Int) (ok : Bool) (m : Int) (m1 : Int) (m2 : Int) (m3 : Int) (m4 : Int) (m5 : Int) (m6 : Int) (m7 : Int) (m8 : Int) (m9 : List Y1_6) (m10 : Bool) : L16_5 k (j + 1) l_1 ticks ok m m1 m2 m3 m4 m5 m6 m7 m8 m9 m10 = l16_5 k (L16_5 k j) l_1 ticks ok m m1 m2 m3 m4 m5 m6 m7 m8 m9 m10 := iter_succ _ _ _ _
noncomputable def S16 (k : Nat) (l_ : List Y1_1) (in_ : Int) : Option Y1_9 :=
 (S36 k l_).bind fun q0 =>
 (bif !q0.1.1 then
  some ((0, 0, false, ()), ())
 else
  (S37 k in_).bind fun q1 =>
  L16_5 k k l_ 0 true q1.1.1.1 q1.1.1.2.1.1 q1.1.1.2.1.2.1 q1.1.1.2.1.2.2.1 q1.1.1.2.1.2.2.2.1 q1.1.1.2.1.2.2.2.2.1 q1.1.1.2.1.2.2.2.2.2.1 q1.1.1.2.1.2.2.2.2.2.2.1 q1.1.1.2.1.2.2.2.2.2.2.2 q1.1.1.2.2.1 q1.1.1.2.2.2)
noncomputable def E16 : Env := tab.env (lk [(36, F36), (37, F37), (38, F38)]) (hintL [])
theorem E16_ok : EnvOK Try.prog E16 := envOK_of tabOK _ _ (allFn_lk (l := [(36, F36), (37, F37), (38, F38)]) ⟨ok36, ok37, ok38, trivial⟩)
noncomputable def B16 (k : Nat) : Tbl (RD R16 × MD P16) := (.loop 5 c16_L5 (b16_5 k) (fun g => .nil) .nil)
noncomputable def F16 : Fn := ⟨P16, R16, fun k x => S16 k x.1 x.2.1⟩
theorem ok16 : FnOK Try.prog 16 F16 := evalF_ok (E := E16) (T := B16) E16_ok mix Try.func16 rfl (by kernel_rfl) (by kernel_rfl) (fun k => by kernel_rfl) (fun k x => by kernel_rfl)
noncomputable abbrev P12 : List PT := []
noncomputable abbrev R12 : List RT := [.val ⟨false, .bool, true⟩]
noncomputable def S12 (k : Nat) : Option Y1_11 :=
 (S16 k ([(2, 0, 0, 0), (0, 0, 0, 0)] : List Y1_1) 7).bind fun q0 =>
 (S16 k [] 7).bind fun q1 =>
 (bif q0.1.2.2.1 then
  (bif q0.1.1 == 14 then
   (bif q0.1.2.1 == 2 then
    some ((!q1.1.2.2.1, ()), ())
   else
    some ((false, ()), ()))
  else
   some ((false, ()), ()))
 else
  some ((false, ()), ()))
noncomputable def E12 : Env := tab.env (lk [(16, F16)]) (hintL [])
theorem E12_ok : EnvOK Try.prog E12 := envOK_of tabOK _ _ (allFn_lk (l := [(16, F16)]) ⟨ok16, trivial⟩)
noncomputable def B12 (k : Nat) : Tbl (RD R12 × MD P12) := .nil
noncomputable def F12 : Fn := ⟨P12, R12, fun k x => S12 k ⟩
theorem ok12 : FnOK Try.prog 12 F12 := evalF_ok (E := E12) (T := B12) E12_ok mix Try.func12 rfl (by kernel_rfl) (by kernel_rfl) (fun k => by kernel_rfl) (fun k x => by kernel_rfl)
noncomputable abbrev P13 : List PT := [.val ⟨false, (.sl 5 (.int .u8)), false⟩]
noncomputable abbrev R13 : List RT := [.pv (.box 95 [.cell (.sl 5 (.int .u8)), .cell (.int .i64)])]
noncomputable def S13 (k : Nat) (l_ : List Int) : Option ((((List Int) × Int × Unit) × Unit) × Unit) :=
 some (((l_, 0, ()), ()), ())
noncomputable def E13 : Env := tab.env (lk []) (hintL [])
theorem E13_ok : EnvOK Try.prog E13 := envOK_of tabOK _ _ (fun f F h => by cases h)
noncomputable def B13 (k : Nat) : Tbl (RD R13 × MD P13) := .nil
noncomputable def F13 : Fn := ⟨P13, R13, fun k x => S13 k x.1⟩
theorem ok13 : FnOK Try.prog 13 F13 := evalF_ok (E := E13) (T := B13) E13_ok mix Try.func13 rfl (by kernel_rfl) (by kernel_rfl) (fun k => by kernel_rfl) (fun k x => by kernel_rfl)
noncomputable abbrev P33 : List PT := [.mbox 95 [.cell (.sl 5 (.int .u8)), .cell (.int .i64)], .val ⟨false, (.int .i64), false⟩]
noncomputable abbrev R33 : List RT := [.val ⟨false, (.int .i64), true⟩]
noncomputable def S33 (k : Nat) (p : List Int) (p1 : Int) (m : Int) : Option ((Int × Unit) × ((List Int) × Int × Unit) × Unit) :=
 (bif decide (p1 ≥ (p.length : Int)) then
  some ((0, ()), (p, p1, ()), ())
 else
  ix p (IntKind.i64.wrap ((IntKind.i64.wrap (p1 + 1)) - 1)) <|
  nz m <|
  some ((Int.tmod (IntKind.i64.wrap (rd p (IntKind.i64.wrap ((IntKind.i64.wrap (p1 + 1)) - 1)) 0)) m, ()), (p, IntKind.i64.wrap (p1 + 1), ()), ()))
noncomputable def E33 : Env := tab.env (lk []) (hintL [])
theorem E33_ok : EnvOK Try.prog E33 := envOK_of tabOK _ _ (fun f F h => by cases h)
noncomputable def B33 (k : Nat) : Tbl (RD R33 × MD P33) := .nil
noncomputable def F33 : Fn := ⟨P33, R33, fun k x => S33 k x.1.1 x.1.2.1 x.2.1⟩
theorem ok33 : FnOK Try.prog 33 F33 := evalF_ok (E := E33) (T := B33) E33_ok mix Try.func33 rfl (by kernel_rfl) (by kernel_rfl) (fun k => by kernel_rfl) (fun k x => by kernel_rfl)
noncomputable abbrev P35 : List PT := [.mbox 95 [.cell (.sl 5 (.int .u8)), .cell (.int .i64)]]
noncomputable abbrev R35 : List RT := [.val ⟨true, (.pair (.int .i64) Y1_0), true⟩]
noncomputable def S35 (k : Nat) (p : List Int) (p1 : Int) : Option ((Y1_1 × Unit) × ((List Int) × Int × Unit) × Unit) :=
 (S33 k p p1 3).bind fun q0 =>
 (S33 k q0.2.1.1 q0.2.1.2.1 3).bind fun q1 =>
 (S33 k q1.2.1.1 q1.2.1.2.1 6).bind fun q2 =>
 (bif q2.1.1 == 0 then
  (S33 k q2.2.1.1 q2.2.1.2.1 9).bind fun q3 =>
  some (((1, q0.1.1, 0, IntKind.i64.wrap (q3.1.1 - 4)), ()), (q3.2.1.1, q3.2.1.2.1, ()), ())
 else
  (bif q2.1.1 == 1 then
   some (((2, q0.1.1, q1.1.1, 0), ()), (q2.2.1.1, q2.2.1.2.1, ()), ())
  else
   (bif q2.1.1 == 2 then
    some (((3, q0.1.1, q1.1.1, 0), ()), (q2.2.1.1, q2.2.1.2.1, ()), ())
   else
    (bif q2.1.1 == 3 then
     some (((4, q0.1.1, q1.1.1, 0), ()), (q2.2.1.1, q2.2.1.2.1, ()), ())
    else
     (bif q2.1.1 == 4 then
      (S33 k q2.2.1.1 q2.2.1.2.1 7).bind fun q4 =>
      some (((5, q0.1.1, 0, IntKind.i64.wrap (q4.1.1 - 3)), ()), (q4.2.1.1, q4.2.1.2.1, ()), ())
     else
      (S33 k q2.2.1.1 q2.2.1.2.1 64).bind fun q5 =>
      some (((6, q0.1.1, 0, IntKind.i64.wrap (1 + q5.1.1)), ()), (q5.2.1.1, q5.2.1.2.1, ()), ()))))))
noncomputable def E35 : Env := tab.env (lk [(33, F33)]) (hintL [])
theorem E35_ok : EnvOK Try.prog E35 := envOK_of tabOK _ _ (allFn_lk (l := [(33, F33)]) ⟨ok33, trivial⟩)
noncomputable def B35 (k : Nat) : Tbl (RD R35 × MD P35) := .nil
noncomputable def F35 : Fn := ⟨P35, R35, fun k x => S35 k x.1.1 x.1.2.1⟩
theorem ok35 : FnOK Try.prog 35 F35 := evalF_ok (E := E35) (T := B35) E35_ok mix Try.func35 rfl (by kernel_rfl) (by kernel_rfl) (fun k => by kernel_rfl) (fun k x => by kernel_rfl)
end Go.Proofs.Ytnlfdfjkgaanjaa.Ab
