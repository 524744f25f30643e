import Derived.Test.YtjnnjciedbgmiaaAbM0
/- Contracts, printed by this session's own program gen.py. -/
set_option linter.unusedVariables false
set_option linter.unusedSimpArgs false
set_option maxRecDepth 100000
namespace Go.Proofs.Ytjnnjciedbgmiaa.Ab
open Go.RowKit Go.Proofs.YtjnnjciedbgmiaaW.PrintWords
abbrev Y1_0 : Type := Int × Int × Int × Int
abbrev Y1_1 : Ty := .pair (.int .i64) (.pair (.int .i64) (.pair (.int .i64) (.int .i64)))
abbrev Y1_2 : Type := ((List Y1_0) × Unit) × ((List Int) × Int × Unit) × Unit
abbrev Y1_3 : Type := ((List Int) × Unit) × Unit
abbrev Y1_4 : Type := (List Y1_0) → (List Int) → (List Int) → (List ((PN Bool 24) × Int)) → (List (PN Bool 24)) → (List (PN Bool 24)) → Int → Int → Option (((List Int) × Bool × Unit) × Unit)
abbrev Y1_5 : Type := ((Int × Int × List (Int × Int)) × Bool × Unit) × Unit
abbrev Y1_6 : Type := (List Int) → (List Y1_0) → Int → Int → Option Y1_3
abbrev Y1_7 : Type := (Int × Unit) × Unit
abbrev Y1_8 : Type := (List Int) → Int → Int → (List Y1_0) → Int → Option Y1_2
abbrev Y1_9 : Type := (List Int) × Int × Unit
abbrev Y1_10 : Type := (Bool × Unit) × Unit
abbrev Y1_11 : Type := ((List Int) × Bool × Unit) × Unit
abbrev Y1_12 : Type := PN Bool 24
abbrev Y1_13 : Type := (Int × Bool × Unit) × Unit
abbrev Y1_14 : Ty := arrT 24 .bool
abbrev Y1_15 : Ty := .sl 5 (.int .u8)
noncomputable abbrev P19 : List PT := [.val ⟨false, (.sl 41 Y1_1), false⟩]
noncomputable abbrev R19 : List RT := [.val ⟨false, (.sl 3 (.int .i64)), true⟩, .val ⟨false, .bool, true⟩]
noncomputable abbrev c19_J8 : Cut := ⟨[1, 4, 5, 6, 7, 8, 9, 20, 21, 22], [.box 22 [.cell (.sl 41 Y1_1)], .own 3 (.int .i64), .own 3 (.int .i64), .mp 78 true Y1_14 false (.int .i64), .cell (.sl 76 Y1_14), .box 3 [.cell (.int .i64)], .box 76 [.cell .bool, .cell .bool, .cell .bool, .cell .bool, .cell .bool, .cell .bool, .cell .bool, .cell .bool, .cell .bool, .cell .bool, .cell .bool, .cell .bool, .cell .bool, .cell .bool, .cell .bool, .cell .bool, .cell .bool, .cell .bool, .cell .bool, .cell .bool, .cell .bool, .cell .bool, .cell .bool, .cell .bool], .cell (.sl 76 Y1_14), .cell (.int .i64), .cell (.int .i64)], [], 110⟩
noncomputable def j19_8 (k : Nat) (g3 : Y1_4) (l_2 : List Y1_0) (out1 : List Int) (open_1 : List Int) (same1 : List (Y1_12 × Int)) (all1 : List Y1_12) (i : Int) (x : Bool) (x1 : Bool) (x2 : Bool) (x3 : Bool) (x4 : Bool) (x5 : Bool) (x6 : Bool) (x7 : Bool) (x8 : Bool) (x9 : Bool) (x10 : Bool) (x11 : Bool) (x12 : Bool) (x13 : Bool) (x14 : Bool) (x15 : Bool) (x16 : Bool) (x17 : Bool) (x18 : Bool) (x19 : Bool) (x20 : Bool) (x21 : Bool) (x22 : Bool) (x23 : Bool) (t20_1 : List Y1_12) (t21_1 : Int) (t22_1 : Int) : Option Y1_11 :=
 ix l_2 i <|
 (bif (rd l_2 i (0, 0, 0, 0)).1 == 9 then
  (bif decide ((open_1.length : Int) ≥ 2) then
   some (([], false, ()), ())
  else
   (S43a k open_1 l_2 i).bind fun q1 =>
   (bif q1.1.1 then
    some (([], false, ()), ())
   else
    ap open_1 ([i] : List Int) 8 fun r2 =>
    g3 l_2 out1 r2 same1 all1 t20_1 t21_1 (IntKind.i64.wrap (t22_1 + 1))))
 else
  (bif (rd l_2 i (0, 0, 0, 0)).1 == 10 then
   (bif decide ((IntKind.i64.wrap ((open_1.length : Int) - 1)) < 0) then
    some (([], false, ()), ())
   else
    ix open_1 (IntKind.i64.wrap ((open_1.length : Int) - 1)) <|
    ix l_2 (rd open_1 (IntKind.i64.wrap ((open_1.length : Int) - 1)) 0) <|
    ix l_2 i <|
    (bif (rd l_2 (rd open_1 (IntKind.i64.wrap ((open_1.length : Int) - 1)) 0) (0, 0, 0, 0)).2.1 != (rd l_2 i (0, 0, 0, 0)).2.1 then
     some (([], false, ()), ())
    else
     ix open_1 (IntKind.i64.wrap ((open_1.length : Int) - 1)) <|
     ix all1 (rd open_1 (IntKind.i64.wrap ((open_1.length : Int) - 1)) 0) <|
     (bif (mget Y1_14 (.int .i64) (rd all1 (rd open_1 (IntKind.i64.wrap ((open_1.length : Int) - 1)) 0) (prep (α := Bool) 24 false)) same1 0) != (mget Y1_14 (.int .i64) (x, x1, x2, x3, x4, x5, x6, x7, x8, x9, x10, x11, x12, x13, x14, x15, x16, x17, x18, x19, x20, x21, x22, x23) same1 0) then
      some (([], false, ()), ())
     else
      ix open_1 (IntKind.i64.wrap ((open_1.length : Int) - 1)) <|
      ix out1 (rd open_1 (IntKind.i64.wrap ((open_1.length : Int) - 1)) 0) <|
      sx open_1 0 (IntKind.i64.wrap ((open_1.length : Int) - 1)) <|
      g3 l_2 (upd out1 (rd open_1 (IntKind.i64.wrap ((open_1.length : Int) - 1)) 0) i) (open_1.take (IntKind.i64.wrap ((open_1.length : Int) - 1)).toNat) same1 all1 t20_1 t21_1 (IntKind.i64.wrap (t22_1 + 1)))))
  else
   g3 l_2 out1 open_1 same1 all1 t20_1 t21_1 (IntKind.i64.wrap (t22_1 + 1))))
noncomputable abbrev c19_L3 : Cut := ⟨[1, 4, 5, 6, 7, 20, 21, 22], [.box 22 [.cell (.sl 41 Y1_1)], .own 3 (.int .i64), .own 3 (.int .i64), .mp 78 true Y1_14 false (.int .i64), .cell (.sl 76 Y1_14), .cell (.sl 76 Y1_14), .cell (.int .i64), .cell (.int .i64)], [], 110⟩
noncomputable def l19_3 (k : Nat) (g3 : Y1_4) (l_1 : List Y1_0) (out : List Int) (open_ : List Int) (same : List (Y1_12 × Int)) (all : List Y1_12) (t20 : List Y1_12) (t21 : Int) (t22 : Int) : Option Y1_11 :=
 (bif decide (t22 < t21) then
  ix t20 t22 <|
  (bif !(mhas Y1_14 (.int .i64) (rd t20 t22 (prep (α := Bool) 24 false)) same) then
   j19_8 k g3 l_1 out open_ (updD Y1_14 (.int .i64) (rd t20 t22 (prep (α := Bool) 24 false)) t22 same) all t22 (rd t20 t22 (prep (α := Bool) 24 false)).1 (rd t20 t22 (prep (α := Bool) 24 false)).2.1 (rd t20 t22 (prep (α := Bool) 24 false)).2.2.1 (rd t20 t22 (prep (α := Bool) 24 false)).2.2.2.1 (rd t20 t22 (prep (α := Bool) 24 false)).2.2.2.2.1 (rd t20 t22 (prep (α := Bool) 24 false)).2.2.2.2.2.1 (rd t20 t22 (prep (α := Bool) 24 false)).2.2.2.2.2.2.1 (rd t20 t22 (prep (α := Bool) 24 false)).2.2.2.2.2.2.2.1 (rd t20 t22 (prep (α := Bool) 24 false)).2.2.2.2.2.2.2.2.1 (rd t20 t22 (prep (α := Bool) 24 false)).2.2.2.2.2.2.2.2.2.1 (rd t20 t22 (prep (α := Bool) 24 false)).2.2.2.2.2.2.2.2.2.2.1 (rd t20 t22 (prep (α := Bool) 24 false)).2.2.2.2.2.2.2.2.2.2.2.1 (rd t20 t22 (prep (α := Bool) 24 false)).2.2.2.2.2.2.2.2.2.2.2.2.1 (rd t20 t22 (prep (α := Bool) 24 false)).2.2.2.2.2.2.2.2.2.2.2.2.2.1 (rd t20 t22 (prep (α := Bool) 24 false)).2.2.2.2.2.2.2.2.2.2.2.2.2.2.1 (rd t20 t22 (prep (α := Bool) 24 false)).2.2.2.2.2.2.2.2.2.2.2.2.2.2.2.1 (rd t20 t22 (prep (α := Bool) 24 false)).2.2.2.2.2.2.2.2.2.2.2.2.2.2.2.2.1 (rd t20 t22 (prep (α := Bool) 24 false)).2.2.2.2.2.2.2.2.2.2.2.2.2.2.2.2.2.1 (rd t20 t22 (prep (α := Bool) 24 false)).2.2.2.2.2.2.2.2.2.2.2.2.2.2.2.2.2.2.1 (rd t20 t22 (prep (α := Bool) 24 false)).2.2.2.2.2.2.2.2.2.2.2.2.2.2.2.2.2.2.2.1 (rd t20 t22 (prep (α := Bool) 24 false)).2.2.2.2.2.2.2.2.2.2.2.2.2.2.2.2.2.2.2.2.1 (rd t20 t22 (prep (α := Bool) 24 false)).2.2.2.2.2.2.2.2.2.2.2.2.2.2.2.2.2.2.2.2.2.1 (rd t20 t22 (prep (α := Bool) 24 false)).2.2.2.2.2.2.2.2.2.2.2.2.2.2.2.2.2.2.2.2.2.2.1 (rd t20 t22 (prep (α := Bool) 24 false)).2.2.2.2.2.2.2.2.2.2.2.2.2.2.2.2.2.2.2.2.2.2.2 t20 t21 t22
  else
   j19_8 k g3 l_1 out open_ same all t22 (rd t20 t22 (prep (α := Bool) 24 false)).1 (rd t20 t22 (prep (α := Bool) 24 false)).2.1 (rd t20 t22 (prep (α := Bool) 24 false)).2.2.1 (rd t20 t22 (prep (α := Bool) 24 false)).2.2.2.1 (rd t20 t22 (prep (α := Bool) 24 false)).2.2.2.2.1 (rd t20 t22 (prep (α := Bool) 24 false)).2.2.2.2.2.1 (rd t20 t22 (prep (α := Bool) 24 false)).2.2.2.2.2.2.1 (rd t20 t22 (prep (α := Bool) 24 false)).2.2.2.2.2.2.2.1 (rd t20 t22 (prep (α := Bool) 24 false)).2.2.2.2.2.2.2.2.1 (rd t20 t22 (prep (α := Bool) 24 false)).2.2.2.2.2.2.2.2.2.1 (rd t20 t22 (prep (α := Bool) 24 false)).2.2.2.2.2.2.2.2.2.2.1 (rd t20 t22 (prep (α := Bool) 24 false)).2.2.2.2.2.2.2.2.2.2.2.1 (rd t20 t22 (prep (α := Bool) 24 false)).2.2.2.2.2.2.2.2.2.2.2.2.1 (rd t20 t22 (prep (α := Bool) 24 false)).2.2.2.2.2.2.2.2.2.2.2.2.2.1 (rd t20 t22 (prep (α := Bool) 24 false)).2.2.2.2.2.2.2.2.2.2.2.2.2.2.1 (rd t20 t22 (prep (α := Bool) 24 false)).2.2.2.2.2.2.2.2.2.2.2.2.2.2.2.1 (rd t20 t22 (prep (α := Bool) 24 false)).2.2.2.2.2.2.2.2.2.2.2.2.2.2.2.2.1 (rd t20 t22 (prep (α := Bool) 24 false)).2.2.2.2.2.2.2.2.2.2.2.2.2.2.2.2.2.1 (rd t20 t22 (prep (α := Bool) 24 false)).2.2.2.2.2.2.2.2.2.2.2.2.2.2.2.2.2.2.1 (rd t20 t22 (prep (α := Bool) 24 false)).2.2.2.2.2.2.2.2.2.2.2.2.2.2.2.2.2.2.2.1 (rd t20 t22 (prep (α := Bool) 24 false)).2.2.2.2.2.2.2.2.2.2.2.2.2.2.2.2.2.2.2.2.1 (rd t20 t22 (prep (α := Bool) 24 false)).2.2.2.2.2.2.2.2.2.2.2.2.2.2.2.2.2.2.2.2.2.1 (rd t20 t22 (prep (α := Bool) 24 false)).2.2.2.2.2.2.2.2.2.2.2.2.2.2.2.2.2.2.2.2.2.2.1 (rd t20 t22 (prep (α := Bool) 24 false)).2.2.2.2.2.2.2.2.2.2.2.2.2.2.2.2.2.2.2.2.2.2.2 t20 t21 t22)
 else
  (bif decide ((open_.length : Int) > 0) then
   some (([], false, ()), ())
  else
   some ((out, true, ()), ())))
noncomputable def b19_3 (k : Nat) (g : ((Unit) × ((List Y1_0) × Unit) × (List Int) × (List Int) × (List (Y1_12 × Int)) × (List Y1_12) × (List Y1_12) × Int × Int × Unit) → Option Y1_11) (d : (Unit) × ((List Y1_0) × Unit) × (List Int) × (List Int) × (List (Y1_12 × Int)) × (List Y1_12) × (List Y1_12) × Int × Int × Unit) : Option Y1_11 := l19_3 k (fun l_1 out open_ same all t20 t21 t22 => g ((), (l_1, ()), out, open_, same, all, t20, t21, t22, ())) d.2.1.1 d.2.2.1 d.2.2.2.1 d.2.2.2.2.1 d.2.2.2.2.2.1 d.2.2.2.2.2.2.1 d.2.2.2.2.2.2.2.1 d.2.2.2.2.2.2.2.2.1
noncomputable def L19_3 (k : Nat) (j : Nat) (l_1 : List Y1_0) (out : List Int) (open_ : List Int) (same : List (Y1_12 × Int)) (all : List Y1_12) (t20 : List Y1_12) (t21 : Int) (t22 : Int) : Option Y1_11 := iter (R := ((List Int) × Bool × Unit) × Unit) c19_L3 (b19_3 k) j ((), (l_1, ()), out, open_, same, all, t20, t21, t22, ())
theorem L19_3_s (k : Nat) (j : Nat) (l_1 : List Y1_0) (out : List Int) (open_ : List Int) (same : List (Y1_12 × Int)) (all : List Y1_12) (t20 : List Y1_12) (t21 : Int) (t22 : Int) : L19_3 k (j + 1) l_1 out open_ same all t20 t21 t22 = l19_3 k (L19_3 k j) l_1 out open_ same all t20 t21 t22 := iter_succ _ _ _ _
noncomputable def S19 (k : Nat) (l_ : List Y1_0) : Option Y1_11 :=
 mk (l_.length : Int) (l_.length : Int) 8 <|
 (S42 k l_).bind fun q0 =>
 L19_3 k k l_ (List.replicate (l_.length : Int).toNat (0 : Int)) ([] : List Int) ([] : List (Y1_12 × Int)) q0.1.1 q0.1.1 (q0.1.1.length : Int) 0
noncomputable def E19 : Env := tab.env (lk [(42, F42), (43, F43a)]) (hintL [(104, 1)])
theorem E19_ok : EnvOK Try.prog E19 := envOK_of tabOK _ _ (allFn_lk (l := [(42, F42), (43, F43a)]) ⟨ok42, ok43a, trivial⟩)
noncomputable def B19 (k : Nat) : Tbl (RD R19 × MD P19) := (.loop 3 c19_L3 (b19_3 k) (fun g => (fun (g3 : Y1_4) => (.join 8 c19_J8 (fun d => j19_8 k g3 d.2.1.1 d.2.2.1 d.2.2.2.1 d.2.2.2.2.1 d.2.2.2.2.2.1 d.2.2.2.2.2.2.1.1 d.2.2.2.2.2.2.2.1.1 d.2.2.2.2.2.2.2.1.2.1 d.2.2.2.2.2.2.2.1.2.2.1 d.2.2.2.2.2.2.2.1.2.2.2.1 d.2.2.2.2.2.2.2.1.2.2.2.2.1 d.2.2.2.2.2.2.2.1.2.2.2.2.2.1 d.2.2.2.2.2.2.2.1.2.2.2.2.2.2.1 d.2.2.2.2.2.2.2.1.2.2.2.2.2.2.2.1 d.2.2.2.2.2.2.2.1.2.2.2.2.2.2.2.2.1 d.2.2.2.2.2.2.2.1.2.2.2.2.2.2.2.2.2.1 d.2.2.2.2.2.2.2.1.2.2.2.2.2.2.2.2.2.2.1 d.2.2.2.2.2.2.2.1.2.2.2.2.2.2.2.2.2.2.2.1 d.2.2.2.2.2.2.2.1.2.2.2.2.2.2.2.2.2.2.2.2.1 d.2.2.2.2.2.2.2.1.2.2.2.2.2.2.2.2.2.2.2.2.2.1 d.2.2.2.2.2.2.2.1.2.2.2.2.2.2.2.2.2.2.2.2.2.2.1 d.2.2.2.2.2.2.2.1.2.2.2.2.2.2.2.2.2.2.2.2.2.2.2.1 d.2.2.2.2.2.2.2.1.2.2.2.2.2.2.2.2.2.2.2.2.2.2.2.2.1 d.2.2.2.2.2.2.2.1.2.2.2.2.2.2.2.2.2.2.2.2.2.2.2.2.2.1 d.2.2.2.2.2.2.2.1.2.2.2.2.2.2.2.2.2.2.2.2.2.2.2.2.2.2.1 d.2.2.2.2.2.2.2.1.2.2.2.2.2.2.2.2.2.2.2.2.2.2.2.2.2.2.2.1 d.2.2.2.2.2.2.2.1.2.2.2.2.2.2.2.2.2.2.2.2.2.2.2.2.2.2.2.2.1 d.2.2.2.2.2.2.2.1.2.2.2.2.2.2.2.2.2.2.2.2.2.2.2.2.2.2.2.2.2.1 d.2.2.2.2.2.2.2.1.2.2.2.2.2.2.2.2.2.2.2.2.2.2.2.2.2.2.2.2.2.2.1 d.2.2.2.2.2.2.2.1.2.2.2.2.2.2.2.2.2.2.2.2.2.2.2.2.2.2.2.2.2.2.2.1 d.2.2.2.2.2.2.2.2.1 d.2.2.2.2.2.2.2.2.2.1 d.2.2.2.2.2.2.2.2.2.2.1) .nil)) (fun l_1 out open_ same all t20 t21 t22 => g ((), (l_1, ()), out, open_, same, all, t20, t21, t22, ()))) .nil)
noncomputable def F19 : Fn := ⟨P19, R19, fun k x => S19 k x.1⟩
theorem ok19 : FnOK Try.prog 19 F19 := evalF_ok (E := E19) (T := B19) E19_ok mix Try.func19 rfl (by kernel_rfl) (by kernel_rfl) (fun k => by kernel_rfl) (fun k x => by kernel_rfl)
noncomputable abbrev P44 : List PT := [.val ⟨false, (.int .i64), false⟩, .pv (.ref (.int .i64))]
noncomputable abbrev R44 : List RT := [.val ⟨false, .bool, true⟩]
noncomputable def S44 (k : Nat) (end_ : Int) (x1 : Int) : Option Y1_10 :=
 some ((decide (end_ > x1), ()), ())
noncomputable def E44 : Env := tab.env (lk []) (hintL [])
theorem E44_ok : EnvOK Try.prog E44 := envOK_of tabOK _ _ (fun f F h => by cases h)
noncomputable def B44 (k : Nat) : Tbl (RD R44 × MD P44) := .nil
noncomputable def F44 : Fn := ⟨P44, R44, fun k x => S44 k x.1 x.2.1⟩
theorem ok44 : FnOK Try.prog 44 F44 := evalF_ok (E := E44) (T := B44) E44_ok mix Try.func44 rfl (by kernel_rfl) (by kernel_rfl) (fun k => by kernel_rfl) (fun k x => by kernel_rfl)
noncomputable abbrev P59b : List PT := [.val ⟨false, (.sl 3 (.int .i64)), false⟩, .pv (.clo 44 [.ref (.int .i64)])]
noncomputable abbrev R59b : List RT := [.val ⟨false, (.int .i64), true⟩]
noncomputable abbrev c59b_L2 : Cut := ⟨[0, 1, 7, 8], [.cell (.sl 3 (.int .i64)), .clo 44 [.ref (.int .i64)], .cell (.int .i64), .cell (.int .i64)], [], 19⟩
noncomputable def l59b_2 (k : Nat) (g2 : (List Int) → Int → Int → Int → Option Y1_7) (s1 : List Int) (f1 : Int) (t7 : Int) (t8 : Int) : Option Y1_7 :=
 (bif decide (t8 < t7) then
  ix s1 t8 <|
  (S44 k (rd s1 t8 0) f1).bind fun q0 =>
  (bif q0.1.1 then
   some ((t8, ()), ())
  else
   g2 s1 f1 t7 (IntKind.i64.wrap (t8 + 1)))
 else
  some (((-1), ()), ()))
noncomputable def b59b_2 (k : Nat) (g : ((Unit) × (List Int) × (Int × Unit) × Int × Int × Unit) → Option Y1_7) (d : (Unit) × (List Int) × (Int × Unit) × Int × Int × Unit) : Option Y1_7 := l59b_2 k (fun s1 f1 t7 t8 => g ((), s1, (f1, ()), t7, t8, ())) d.2.1 d.2.2.1.1 d.2.2.2.1 d.2.2.2.2.1
noncomputable def L59b_2 (k : Nat) (j : Nat) (s1 : List Int) (f1 : Int) (t7 : Int) (t8 : Int) : Option Y1_7 := iter (R := (Int × Unit) × Unit) c59b_L2 (b59b_2 k) j ((), s1, (f1, ()), t7, t8, ())
theorem L59b_2_s (k : Nat) (j : Nat) (s1 : List Int) (f1 : Int) (t7 : Int) (t8 : Int) : L59b_2 k (j + 1) s1 f1 t7 t8 = l59b_2 k (L59b_2 k j) s1 f1 t7 t8 := iter_succ _ _ _ _
noncomputable def S59b (k : Nat) (s : List Int) (f : Int) : Option Y1_7 :=
 L59b_2 k k s f (s.length : Int) 0
noncomputable def E59b : Env := tab.env (lk [(44, F44)]) (hintL [])
theorem E59b_ok : EnvOK Try.prog E59b := envOK_of tabOK _ _ (allFn_lk (l := [(44, F44)]) ⟨ok44, trivial⟩)
noncomputable def B59b (k : Nat) : Tbl (RD R59b × MD P59b) := (.loop 2 c59b_L2 (b59b_2 k) (fun g => .nil) .nil)
noncomputable def F59b : Fn := ⟨P59b, R59b, fun k x => S59b k x.1 x.2.1.1⟩
theorem ok59b : FnOK Try.prog 59 F59b := evalF_ok (E := E59b) (T := B59b) E59b_ok mix Try.func59 rfl (by kernel_rfl) (by kernel_rfl) (fun k => by kernel_rfl) (fun k x => by kernel_rfl)
noncomputable abbrev P43b : List PT := [.val ⟨false, (.sl 3 (.int .i64)), false⟩, .pv (.clo 44 [.ref (.int .i64)])]
noncomputable abbrev R43b : List RT := [.val ⟨false, .bool, true⟩]
noncomputable def S43b (k : Nat) (s : List Int) (f : Int) : Option Y1_10 :=
 (S59b k s f).bind fun q0 =>
 some ((decide (q0.1.1 ≥ 0), ()), ())
noncomputable def E43b : Env := tab.env (lk [(59, F59b)]) (hintL [])
theorem E43b_ok : EnvOK Try.prog E43b := envOK_of tabOK _ _ (allFn_lk (l := [(59, F59b)]) ⟨ok59b, trivial⟩)
noncomputable def B43b (k : Nat) : Tbl (RD R43b × MD P43b) := .nil
noncomputable def F43b : Fn := ⟨P43b, R43b, fun k x => S43b k x.1 x.2.1.1⟩
theorem ok43b : FnOK Try.prog 43 F43b := evalF_ok (E := E43b) (T := B43b) E43b_ok mix Try.func43 rfl (by kernel_rfl) (by kernel_rfl) (fun k => by kernel_rfl) (fun k x => by kernel_rfl)
noncomputable abbrev P18 : List PT := [.val ⟨false, (.sl 41 Y1_1), false⟩]
noncomputable abbrev R18 : List RT := [.val ⟨false, .bool, true⟩]
noncomputable abbrev c18_L11 : Cut := ⟨[4, 6, 42, 43, 44], [.own 3 (.int .i64), .own 76 Y1_14, .cell (.sl 41 Y1_1), .cell (.int .i64), .cell (.int .i64)], [], 66⟩
noncomputable def l18_11 (k : Nat) (g11 : (List Int) → (List Y1_12) → (List Y1_0) → Int → Int → Option Y1_10) (pairs : List Int) (all : List Y1_12) (t42 : List Y1_0) (t43 : Int) (t44 : Int) : Option Y1_10 :=
 (bif decide (t44 < t43) then
  ix t42 t44 <|
  (bif (rd t42 t44 (0, 0, 0, 0)).1 != 11 then
   g11 pairs all t42 t43 (IntKind.i64.wrap (t44 + 1))
  else
   ix all t44 <|
   (bif !(beqD Y1_14 (rd all t44 (prep (α := Bool) 24 false)) (false, false, false, false, false, false, false, false, false, false, false, false, false, false, false, false, false, false, false, false, false, false, false, false)) then
    some ((false, ()), ())
   else
    sx pairs 0 t44 <|
    (S43b k (sub pairs 0 t44) t44).bind fun q5 =>
    (bif q5.1.1 then
     some ((false, ()), ())
    else
     g11 pairs all t42 t43 (IntKind.i64.wrap (t44 + 1)))))
 else
  some ((true, ()), ()))
noncomputable def b18_11 (k : Nat) (g : ((Unit) × (List Int) × (List Y1_12) × (List Y1_0) × Int × Int × Unit) → Option Y1_10) (d : (Unit) × (List Int) × (List Y1_12) × (List Y1_0) × Int × Int × Unit) : Option Y1_10 := l18_11 k (fun pairs all t42 t43 t44 => g ((), pairs, all, t42, t43, t44, ())) d.2.1 d.2.2.1 d.2.2.2.1 d.2.2.2.2.1 d.2.2.2.2.2.1
noncomputable def L18_11 (k : Nat) (j : Nat) (pairs : List Int) (all : List Y1_12) (t42 : List Y1_0) (t43 : Int) (t44 : Int) : Option Y1_10 := iter (R := (Bool × Unit) × Unit) c18_L11 (b18_11 k) j ((), pairs, all, t42, t43, t44, ())
theorem L18_11_s (k : Nat) (j : Nat) (pairs : List Int) (all : List Y1_12) (t42 : List Y1_0) (t43 : Int) (t44 : Int) : L18_11 k (j + 1) pairs all t42 t43 t44 = l18_11 k (L18_11 k j) pairs all t42 t43 t44 := iter_succ _ _ _ _
noncomputable def S18 (k : Nat) (l_ : List Y1_0) : Option Y1_10 :=
 (bif decide ((l_.length : Int) < 1) then
  some ((false, ()), ())
 else
  (bif decide ((l_.length : Int) > 24) then
   some ((false, ()), ())
  else
   (S36 k l_).bind fun q0 =>
   (bif q0.1.1 then
    some ((false, ()), ())
   else
    (S39a k l_).bind fun q1 =>
    (bif q1.1.1 != (IntKind.i64.wrap ((l_.length : Int) - 1)) then
     some ((false, ()), ())
    else
     (S41 k l_).bind fun q2 =>
     (bif !q2.1.1 then
      some ((false, ()), ())
     else
      (S19 k l_).bind fun q3 =>
      (bif !q3.1.2.1 then
       some ((false, ()), ())
      else
       (S42 k l_).bind fun q4 =>
       L18_11 k k q3.1.1 q4.1.1 l_ (l_.length : Int) 0))))))
noncomputable def E18 : Env := tab.env (lk [(19, F19), (36, F36), (39, F39a), (41, F41), (42, F42), (43, F43b)]) (hintL [])
theorem E18_ok : EnvOK Try.prog E18 := envOK_of tabOK _ _ (allFn_lk (l := [(19, F19), (36, F36), (39, F39a), (41, F41), (42, F42), (43, F43b)]) ⟨ok19, ok36, ok39a, ok41, ok42, ok43b, trivial⟩)
noncomputable def B18 (k : Nat) : Tbl (RD R18 × MD P18) := (.loop 11 c18_L11 (b18_11 k) (fun g => .nil) .nil)
noncomputable def F18 : Fn := ⟨P18, R18, fun k x => S18 k x.1⟩
theorem ok18 : FnOK Try.prog 18 F18 := evalF_ok (E := E18) (T := B18) E18_ok mix Try.func18 rfl (by kernel_rfl) (by kernel_rfl) (fun k => by kernel_rfl) (fun k x => by kernel_rfl)
noncomputable abbrev P64 : List PT := [.val ⟨false, (.int .i64), false⟩]
noncomputable abbrev R64 : List RT := [.val ⟨false, (.int .u64), true⟩]
noncomputable def S64 (k : Nat) (v : Int) : Option Y1_7 :=
 (bif decide (v < 0) then
  some ((IntKind.u64.wrap (0 - (IntKind.u64.wrap v)), ()), ())
 else
  some ((IntKind.u64.wrap v, ()), ()))
noncomputable def E64 : Env := tab.env (lk []) (hintL [])
theorem E64_ok : EnvOK Try.prog E64 := envOK_of tabOK _ _ (fun f F h => by cases h)
noncomputable def B64 (k : Nat) : Tbl (RD R64 × MD P64) := .nil
noncomputable def F64 : Fn := ⟨P64, R64, fun k x => S64 k x.1⟩
theorem ok64 : FnOK Try.prog 64 F64 := evalF_ok (E := E64) (T := B64) E64_ok mix Try.func64 rfl (by kernel_rfl) (by kernel_rfl) (fun k => by kernel_rfl) (fun k x => by kernel_rfl)
noncomputable abbrev P63 : List PT := [.val ⟨false, (.int .u64), false⟩, .val ⟨false, (.int .u64), false⟩]
noncomputable abbrev R63 : List RT := [.val ⟨false, (.int .u64), true⟩, .val ⟨false, .bool, true⟩]
noncomputable def S63 (k : Nat) (a : Int) (b : Int) : Option Y1_13 :=
 (bif decide ((ishr .u64 a 32) > 0) then
  (bif decide ((ishr .u64 b 32) > 0) then
   some ((0, false, ()), ())
  else
   (bif decide ((ishr .u64 (ior .u64 (IntKind.u64.wrap ((ishr .u64 a 32) * (IntKind.u64.wrap (IntKind.u32.wrap b)))) (IntKind.u64.wrap ((IntKind.u64.wrap (IntKind.u32.wrap a)) * (ishr .u64 b 32)))) 32) > 0) then
    some ((0, false, ()), ())
   else
    some ((IntKind.u64.wrap ((IntKind.u64.wrap ((IntKind.u64.wrap (IntKind.u32.wrap a)) * (IntKind.u64.wrap (IntKind.u32.wrap b)))) + (ishl .u64 (ior .u64 (IntKind.u64.wrap ((ishr .u64 a 32) * (IntKind.u64.wrap (IntKind.u32.wrap b)))) (IntKind.u64.wrap ((IntKind.u64.wrap (IntKind.u32.wrap a)) * (ishr .u64 b 32)))) 32)), decide ((IntKind.u64.wrap ((IntKind.u64.wrap ((IntKind.u64.wrap (IntKind.u32.wrap a)) * (IntKind.u64.wrap (IntKind.u32.wrap b)))) + (ishl .u64 (ior .u64 (IntKind.u64.wrap ((ishr .u64 a 32) * (IntKind.u64.wrap (IntKind.u32.wrap b)))) (IntKind.u64.wrap ((IntKind.u64.wrap (IntKind.u32.wrap a)) * (ishr .u64 b 32)))) 32))) ≥ (IntKind.u64.wrap ((IntKind.u64.wrap (IntKind.u32.wrap a)) * (IntKind.u64.wrap (IntKind.u32.wrap b))))), ()), ())))
 else
  (bif decide ((ishr .u64 (ior .u64 (IntKind.u64.wrap ((ishr .u64 a 32) * (IntKind.u64.wrap (IntKind.u32.wrap b)))) (IntKind.u64.wrap ((IntKind.u64.wrap (IntKind.u32.wrap a)) * (ishr .u64 b 32)))) 32) > 0) then
   some ((0, false, ()), ())
  else
   some ((IntKind.u64.wrap ((IntKind.u64.wrap ((IntKind.u64.wrap (IntKind.u32.wrap a)) * (IntKind.u64.wrap (IntKind.u32.wrap b)))) + (ishl .u64 (ior .u64 (IntKind.u64.wrap ((ishr .u64 a 32) * (IntKind.u64.wrap (IntKind.u32.wrap b)))) (IntKind.u64.wrap ((IntKind.u64.wrap (IntKind.u32.wrap a)) * (ishr .u64 b 32)))) 32)), decide ((IntKind.u64.wrap ((IntKind.u64.wrap ((IntKind.u64.wrap (IntKind.u32.wrap a)) * (IntKind.u64.wrap (IntKind.u32.wrap b)))) + (ishl .u64 (ior .u64 (IntKind.u64.wrap ((ishr .u64 a 32) * (IntKind.u64.wrap (IntKind.u32.wrap b)))) (IntKind.u64.wrap ((IntKind.u64.wrap (IntKind.u32.wrap a)) * (ishr .u64 b 32)))) 32))) ≥ (IntKind.u64.wrap ((IntKind.u64.wrap (IntKind.u32.wrap a)) * (IntKind.u64.wrap (IntKind.u32.wrap b))))), ()), ())))
noncomputable def E63 : Env := tab.env (lk []) (hintL [])
theorem E63_ok : EnvOK Try.prog E63 := envOK_of tabOK _ _ (fun f F h => by cases h)
noncomputable def B63 (k : Nat) : Tbl (RD R63 × MD P63) := .nil
noncomputable def F63 : Fn := ⟨P63, R63, fun k x => S63 k x.1 x.2.1⟩
theorem ok63 : FnOK Try.prog 63 F63 := evalF_ok (E := E63) (T := B63) E63_ok mix Try.func63 rfl (by kernel_rfl) (by kernel_rfl) (fun k => by kernel_rfl) (fun k x => by kernel_rfl)
noncomputable abbrev P65 : List PT := [.val ⟨false, .bool, false⟩]
noncomputable abbrev R65 : List RT := [.val ⟨false, (.int .i64), true⟩, .val ⟨false, .bool, true⟩]
noncomputable def S65 (k : Nat) (below : Bool) : Option Y1_13 :=
 (bif below then
  some (((-9223372036854775808), false, ()), ())
 else
  some ((9223372036854775807, false, ()), ()))
noncomputable def E65 : Env := tab.env (lk []) (hintL [])
theorem E65_ok : EnvOK Try.prog E65 := envOK_of tabOK _ _ (fun f F h => by cases h)
noncomputable def B65 (k : Nat) : Tbl (RD R65 × MD P65) := .nil
noncomputable def F65 : Fn := ⟨P65, R65, fun k x => S65 k x.1⟩
theorem ok65 : FnOK Try.prog 65 F65 := evalF_ok (E := E65) (T := B65) E65_ok mix Try.func65 rfl (by kernel_rfl) (by kernel_rfl) (fun k => by kernel_rfl) (fun k x => by kernel_rfl)
noncomputable abbrev P61 : List PT := [.val ⟨false, (.int .i64), false⟩, .val ⟨false, (.int .i64), false⟩]
noncomputable abbrev R61 : List RT := [.val ⟨false, (.int .i64), true⟩, .val ⟨false, .bool, true⟩]
noncomputable abbrev c61_J5 : Cut := ⟨[0, 1, 6, 7], [.cell (.int .i64), .cell (.int .i64), .cell .bool, .cell (.int .u64)], [], 45⟩
noncomputable def j61_5 (k : Nat) (a1 : Int) (b1 : Int) (below : Bool) (most : Int) : Option Y1_13 :=
 (S64 k a1).bind fun q0 =>
 (S64 k b1).bind fun q1 =>
 (S63 k q0.1.1 q1.1.1).bind fun q2 =>
 (bif !q2.1.2.1 then
  (S65 k below).bind fun q3 =>
  some ((q3.1.1, q3.1.2.1, ()), ())
 else
  (bif decide (q2.1.1 > most) then
   (S65 k below).bind fun q4 =>
   some ((q4.1.1, q4.1.2.1, ()), ())
  else
   (bif below then
    some ((IntKind.i64.wrap (IntKind.u64.wrap (0 - q2.1.1)), true, ()), ())
   else
    some ((IntKind.i64.wrap q2.1.1, true, ()), ()))))
noncomputable def S61 (k : Nat) (a : Int) (b : Int) : Option Y1_13 :=
 (bif !((decide (a < 0)) == (decide (b < 0))) then
  j61_5 k a b (!((decide (a < 0)) == (decide (b < 0)))) 9223372036854775808
 else
  j61_5 k a b (!((decide (a < 0)) == (decide (b < 0)))) 9223372036854775807)
noncomputable def E61 : Env := tab.env (lk [(63, F63), (64, F64), (65, F65)]) (hintL [])
theorem E61_ok : EnvOK Try.prog E61 := envOK_of tabOK _ _ (allFn_lk (l := [(63, F63), (64, F64), (65, F65)]) ⟨ok63, ok64, ok65, trivial⟩)
noncomputable def B61 (k : Nat) : Tbl (RD R61 × MD P61) := (.join 5 c61_J5 (fun d => j61_5 k d.2.1 d.2.2.1 d.2.2.2.1 d.2.2.2.2.1) .nil)
noncomputable def F61 : Fn := ⟨P61, R61, fun k x => S61 k x.1 x.2.1⟩
theorem ok61 : FnOK Try.prog 61 F61 := evalF_ok (E := E61) (T := B61) E61_ok mix Try.func61 rfl (by kernel_rfl) (by kernel_rfl) (fun k => by kernel_rfl) (fun k x => by kernel_rfl)
noncomputable abbrev P48 : List PT := [.val ⟨false, (.sl 41 Y1_1), false⟩]
noncomputable abbrev R48 : List RT := [.val ⟨false, (.sl 2 (.int .i64)), true⟩]
noncomputable abbrev c48_L12 : Cut := ⟨[3, 5, 6, 7, 20, 21, 22], [.own 2 (.int .i64), .cell (.int .i64), .box 41 [.cell (.int .i64), .cell (.int .i64), .cell (.int .i64), .cell (.int .i64)], .cell (.int .i64), .cell (.sl 41 Y1_1), .cell (.int .i64), .cell (.int .i64)], [], 55⟩
noncomputable def l48_12 (k : Nat) (g8 : Y1_6) (g12 : (List Int) → Int → Int → Int → Int → Int → Int → (List Y1_0) → Int → Int → Option Y1_3) (out2 : List Int) (i : Int) (x : Int) (x1 : Int) (x2 : Int) (x3 : Int) (k_ : Int) (t20_1 : List Y1_0) (t21_1 : Int) (t22_1 : Int) : Option Y1_3 :=
 (bif decide (k_ ≤ (IntKind.i64.wrap (i + x2))) then
  ix out2 k_ <|
  (S61 k (rd out2 k_ 0) x3).bind fun q0 =>
  ix out2 k_ <|
  g12 (upd out2 k_ q0.1.1) i x x1 x2 x3 (IntKind.i64.wrap (k_ + 1)) t20_1 t21_1 t22_1
 else
  g8 out2 t20_1 t21_1 (IntKind.i64.wrap (t22_1 + 1)))
noncomputable def b48_12 (k : Nat) (g8 : Y1_6) (g : ((Unit) × (List Int) × Int × (Int × Int × Int × Int × Unit) × Int × (List Y1_0) × Int × Int × Unit) → Option Y1_3) (d : (Unit) × (List Int) × Int × (Int × Int × Int × Int × Unit) × Int × (List Y1_0) × Int × Int × Unit) : Option Y1_3 := l48_12 k g8 (fun out2 i x x1 x2 x3 k_ t20_1 t21_1 t22_1 => g ((), out2, i, (x, x1, x2, x3, ()), k_, t20_1, t21_1, t22_1, ())) d.2.1 d.2.2.1 d.2.2.2.1.1 d.2.2.2.1.2.1 d.2.2.2.1.2.2.1 d.2.2.2.1.2.2.2.1 d.2.2.2.2.1 d.2.2.2.2.2.1 d.2.2.2.2.2.2.1 d.2.2.2.2.2.2.2.1
noncomputable def L48_12 (k : Nat) (g8 : Y1_6) (j : Nat) (out2 : List Int) (i : Int) (x : Int) (x1 : Int) (x2 : Int) (x3 : Int) (k_ : Int) (t20_1 : List Y1_0) (t21_1 : Int) (t22_1 : Int) : Option Y1_3 := iter (R := ((List Int) × Unit) × Unit) c48_L12 (b48_12 k g8) j ((), out2, i, (x, x1, x2, x3, ()), k_, t20_1, t21_1, t22_1, ())
theorem L48_12_s (k : Nat) (g8 : Y1_6) (j : Nat) (out2 : List Int) (i : Int) (x : Int) (x1 : Int) (x2 : Int) (x3 : Int) (k_ : Int) (t20_1 : List Y1_0) (t21_1 : Int) (t22_1 : Int) : L48_12 k g8 (j + 1) out2 i x x1 x2 x3 k_ t20_1 t21_1 t22_1 = l48_12 k g8 (L48_12 k g8 j) out2 i x x1 x2 x3 k_ t20_1 t21_1 t22_1 := iter_succ _ _ _ _
noncomputable abbrev c48_L8 : Cut := ⟨[3, 20, 21, 22], [.own 2 (.int .i64), .cell (.sl 41 Y1_1), .cell (.int .i64), .cell (.int .i64)], [], 55⟩
noncomputable def l48_8 (k : Nat) (g8 : Y1_6) (out1 : List Int) (t20 : List Y1_0) (t21 : Int) (t22 : Int) : Option Y1_3 :=
 (bif decide (t22 < t21) then
  ix t20 t22 <|
  (bif (rd t20 t22 (0, 0, 0, 0)).1 != 8 then
   g8 out1 t20 t21 (IntKind.i64.wrap (t22 + 1))
  else
   L48_12 k g8 k out1 t22 (rd t20 t22 (0, 0, 0, 0)).1 (rd t20 t22 (0, 0, 0, 0)).2.1 (rd t20 t22 (0, 0, 0, 0)).2.2.1 (rd t20 t22 (0, 0, 0, 0)).2.2.2 (IntKind.i64.wrap (t22 + 1)) t20 t21 t22)
 else
  some ((out1, ()), ()))
noncomputable def b48_8 (k : Nat) (g : ((Unit) × (List Int) × (List Y1_0) × Int × Int × Unit) → Option Y1_3) (d : (Unit) × (List Int) × (List Y1_0) × Int × Int × Unit) : Option Y1_3 := l48_8 k (fun out1 t20 t21 t22 => g ((), out1, t20, t21, t22, ())) d.2.1 d.2.2.1 d.2.2.2.1 d.2.2.2.2.1
noncomputable def L48_8 (k : Nat) (j : Nat) (out1 : List Int) (t20 : List Y1_0) (t21 : Int) (t22 : Int) : Option Y1_3 := iter (R := ((List Int) × Unit) × Unit) c48_L8 (b48_8 k) j ((), out1, t20, t21, t22, ())
theorem L48_8_s (k : Nat) (j : Nat) (out1 : List Int) (t20 : List Y1_0) (t21 : Int) (t22 : Int) : L48_8 k (j + 1) out1 t20 t21 t22 = l48_8 k (L48_8 k j) out1 t20 t21 t22 := iter_succ _ _ _ _
noncomputable abbrev c48_L3 : Cut := ⟨[0, 3, 12, 13], [.cell (.sl 41 Y1_1), .own 2 (.int .i64), .cell (.int .i64), .cell (.int .i64)], [], 55⟩
noncomputable def l48_3 (k : Nat) (g3 : (List Y1_0) → (List Int) → Int → Int → Option Y1_3) (l_1 : List Y1_0) (out : List Int) (t12 : Int) (t13 : Int) : Option Y1_3 :=
 (bif decide (t13 < t12) then
  ix out t13 <|
  g3 l_1 (upd out t13 1) t12 (IntKind.i64.wrap (t13 + 1))
 else
  L48_8 k k out l_1 (l_1.length : Int) 0)
noncomputable def b48_3 (k : Nat) (g : ((Unit) × (List Y1_0) × (List Int) × Int × Int × Unit) → Option Y1_3) (d : (Unit) × (List Y1_0) × (List Int) × Int × Int × Unit) : Option Y1_3 := l48_3 k (fun l_1 out t12 t13 => g ((), l_1, out, t12, t13, ())) d.2.1 d.2.2.1 d.2.2.2.1 d.2.2.2.2.1
noncomputable def L48_3 (k : Nat) (j : Nat) (l_1 : List Y1_0) (out : List Int) (t12 : Int) (t13 : Int) : Option Y1_3 := iter (R := ((List Int) × Unit) × Unit) c48_L3 (b48_3 k) j ((), l_1, out, t12, t13, ())
theorem L48_3_s (k : Nat) (j : Nat) (l_1 : List Y1_0) (out : List Int) (t12 : Int) (t13 : Int) : L48_3 k (j + 1) l_1 out t12 t13 = l48_3 k (L48_3 k j) l_1 out t12 t13 := iter_succ _ _ _ _
noncomputable def S48 (k : Nat) (l_ : List Y1_0) : Option Y1_3 :=
 mk (l_.length : Int) (l_.length : Int) 8 <|
 L48_3 k k l_ (List.replicate (l_.length : Int).toNat (0 : Int)) ((List.replicate (l_.length : Int).toNat (0 : Int)).length : Int) 0
noncomputable def E48 : Env := tab.env (lk [(61, F61)]) (hintL [])
theorem E48_ok : EnvOK Try.prog E48 := envOK_of tabOK _ _ (allFn_lk (l := [(61, F61)]) ⟨ok61, trivial⟩)
noncomputable def B48 (k : Nat) : Tbl (RD R48 × MD P48) := (.loop 8 c48_L8 (b48_8 k) (fun g => (fun (g8 : Y1_6) => (.loop 12 c48_L12 (b48_12 k g8) (fun g => .nil) .nil)) (fun out1 t20 t21 t22 => g ((), out1, t20, t21, t22, ()))) (.loop 3 c48_L3 (b48_3 k) (fun g => .nil) .nil))
noncomputable def F48 : Fn := ⟨P48, R48, fun k x => S48 k x.1⟩
theorem ok48 : FnOK Try.prog 48 F48 := evalF_ok (E := E48) (T := B48) E48_ok mix Try.func48 rfl (by kernel_rfl) (by kernel_rfl) (fun k => by kernel_rfl) (fun k x => by kernel_rfl)
noncomputable abbrev P62 : List PT := [.val ⟨false, (.int .i64), false⟩, .val ⟨false, (.int .i64), false⟩]
noncomputable abbrev R62 : List RT := [.val ⟨false, (.int .i64), true⟩, .val ⟨false, .bool, true⟩]
noncomputable def S62 (k : Nat) (a : Int) (b : Int) : Option Y1_13 :=
 (bif decide ((iand .i64 (ixor .i64 a (IntKind.i64.wrap (IntKind.u64.wrap ((IntKind.u64.wrap a) + (IntKind.u64.wrap b))))) (ixor .i64 b (IntKind.i64.wrap (IntKind.u64.wrap ((IntKind.u64.wrap a) + (IntKind.u64.wrap b)))))) < 0) then
  (S65 k (decide (a < 0))).bind fun q0 =>
  some ((q0.1.1, q0.1.2.1, ()), ())
 else
  some ((IntKind.i64.wrap (IntKind.u64.wrap ((IntKind.u64.wrap a) + (IntKind.u64.wrap b))), true, ()), ()))
noncomputable def E62 : Env := tab.env (lk [(65, F65)]) (hintL [])
theorem E62_ok : EnvOK Try.prog E62 := envOK_of tabOK _ _ (allFn_lk (l := [(65, F65)]) ⟨ok65, trivial⟩)
noncomputable def B62 (k : Nat) : Tbl (RD R62 × MD P62) := .nil
noncomputable def F62 : Fn := ⟨P62, R62, fun k x => S62 k x.1 x.2.1⟩
theorem ok62 : FnOK Try.prog 62 F62 := evalF_ok (E := E62) (T := B62) E62_ok mix Try.func62 rfl (by kernel_rfl) (by kernel_rfl) (fun k => by kernel_rfl) (fun k x => by kernel_rfl)
noncomputable abbrev P49 : List PT := [.val ⟨false, (.sl 2 (.int .i64)), false⟩]
noncomputable abbrev R49 : List RT := [.val ⟨false, (.int .i64), true⟩]
noncomputable abbrev c49_L2 : Cut := ⟨[2, 5, 6, 7], [.cell (.int .i64), .cell (.sl 2 (.int .i64)), .cell (.int .i64), .cell (.int .i64)], [], 19⟩
noncomputable def l49_2 (k : Nat) (g2 : Int → (List Int) → Int → Int → Option Y1_7) (s : Int) (t5 : List Int) (t6 : Int) (t7 : Int) : Option Y1_7 :=
 (bif decide (t7 < t6) then
  ix t5 t7 <|
  (S62 k s (rd t5 t7 0)).bind fun q0 =>
  g2 q0.1.1 t5 t6 (IntKind.i64.wrap (t7 + 1))
 else
  some ((s, ()), ()))
noncomputable def b49_2 (k : Nat) (g : ((Unit) × Int × (List Int) × Int × Int × Unit) → Option Y1_7) (d : (Unit) × Int × (List Int) × Int × Int × Unit) : Option Y1_7 := l49_2 k (fun s t5 t6 t7 => g ((), s, t5, t6, t7, ())) d.2.1 d.2.2.1 d.2.2.2.1 d.2.2.2.2.1
noncomputable def L49_2 (k : Nat) (j : Nat) (s : Int) (t5 : List Int) (t6 : Int) (t7 : Int) : Option Y1_7 := iter (R := (Int × Unit) × Unit) c49_L2 (b49_2 k) j ((), s, t5, t6, t7, ())
theorem L49_2_s (k : Nat) (j : Nat) (s : Int) (t5 : List Int) (t6 : Int) (t7 : Int) : L49_2 k (j + 1) s t5 t6 t7 = l49_2 k (L49_2 k j) s t5 t6 t7 := iter_succ _ _ _ _
noncomputable def S49 (k : Nat) (l_ : List Int) : Option Y1_7 :=
 L49_2 k k 0 l_ (l_.length : Int) 0
noncomputable def E49 : Env := tab.env (lk [(62, F62)]) (hintL [])
theorem E49_ok : EnvOK Try.prog E49 := envOK_of tabOK _ _ (allFn_lk (l := [(62, F62)]) ⟨ok62, trivial⟩)
noncomputable def B49 (k : Nat) : Tbl (RD R49 × MD P49) := (.loop 2 c49_L2 (b49_2 k) (fun g => .nil) .nil)
noncomputable def F49 : Fn := ⟨P49, R49, fun k x => S49 k x.1⟩
theorem ok49 : FnOK Try.prog 49 F49 := evalF_ok (E := E49) (T := B49) E49_ok mix Try.func49 rfl (by kernel_rfl) (by kernel_rfl) (fun k => by kernel_rfl) (fun k x => by kernel_rfl)
noncomputable abbrev P26 : List PT := [.val ⟨false, (.sl 41 Y1_1), false⟩]
noncomputable abbrev R26 : List RT := [.val ⟨true, (.pair (.int .i64) (.pair (.int .i64) (.sl 54 (.pair (.int .i64) (.int .i64))))), true⟩, .val ⟨false, .bool, true⟩]
noncomputable abbrev c26_L7 : Cut := ⟨[2, 4, 5, 6, 24, 25, 26], [.box 50 [.cell (.int .i64), .cell (.int .i64), .own 54 (.pair (.int .i64) (.int .i64))], .own 2 (.int .i64), .cell (.int .i64), .own 3 (.int .i64), .cell (.sl 41 Y1_1), .cell (.int .i64), .cell (.int .i64)], [], 75⟩
noncomputable def l26_7 (k : Nat) (g7 : Int → Int → (List (Int × Int)) → (List Int) → Int → (List Int) → (List Y1_0) → Int → Int → Option Y1_5) (c : Int) (c1 : Int) (c2 : List (Int × Int)) (all : List Int) (from_ : Int) (pairs : List Int) (t24 : List Y1_0) (t25 : Int) (t26 : Int) : Option Y1_5 :=
 (bif decide (t26 < t25) then
  ix t24 t26 <|
  (bif (rd t24 t26 (0, 0, 0, 0)).1 == 11 then
   sx all from_ (IntKind.i64.wrap (t26 + 1)) <|
   (S49 k (sub all from_ (IntKind.i64.wrap (t26 + 1)))).bind fun q4 =>
   g7 c (mx c1 q4.1.1) c2 all (IntKind.i64.wrap (t26 + 1)) pairs t24 t25 (IntKind.i64.wrap (t26 + 1))
  else
   (bif (rd t24 t26 (0, 0, 0, 0)).1 == 0 then
    sx all from_ (IntKind.i64.wrap (t26 + 1)) <|
    (S49 k (sub all from_ (IntKind.i64.wrap (t26 + 1)))).bind fun q5 =>
    g7 c (mx c1 q5.1.1) c2 all (IntKind.i64.wrap (t26 + 1)) pairs t24 t25 (IntKind.i64.wrap (t26 + 1))
   else
    (bif (rd t24 t26 (0, 0, 0, 0)).1 == 9 then
     ix pairs t26 <|
     sx all (IntKind.i64.wrap (t26 + 1)) (IntKind.i64.wrap ((rd pairs t26 0) + 1)) <|
     (S49 k (sub all (IntKind.i64.wrap (t26 + 1)) (IntKind.i64.wrap ((rd pairs t26 0) + 1)))).bind fun q6 =>
     ix all t26 <|
     nz (rd all t26 0) <|
     ap c2 ([((rd t24 t26 (0, 0, 0, 0)).2.1, IntKind.i64.wrap (Int.tdiv q6.1.1 (rd all t26 0)))] : List (Int × Int)) 16 fun r7 =>
     g7 c c1 r7 all from_ pairs t24 t25 (IntKind.i64.wrap (t26 + 1))
    else
     g7 c c1 c2 all from_ pairs t24 t25 (IntKind.i64.wrap (t26 + 1)))))
 else
  some (((c, c1, c2), true, ()), ()))
noncomputable def b26_7 (k : Nat) (g : ((Unit) × (Int × Int × (List (Int × Int)) × Unit) × (List Int) × Int × (List Int) × (List Y1_0) × Int × Int × Unit) → Option Y1_5) (d : (Unit) × (Int × Int × (List (Int × Int)) × Unit) × (List Int) × Int × (List Int) × (List Y1_0) × Int × Int × Unit) : Option Y1_5 := l26_7 k (fun c c1 c2 all from_ pairs t24 t25 t26 => g ((), (c, c1, c2, ()), all, from_, pairs, t24, t25, t26, ())) d.2.1.1 d.2.1.2.1 d.2.1.2.2.1 d.2.2.1 d.2.2.2.1 d.2.2.2.2.1 d.2.2.2.2.2.1 d.2.2.2.2.2.2.1 d.2.2.2.2.2.2.2.1
noncomputable def L26_7 (k : Nat) (j : Nat) (c : Int) (c1 : Int) (c2 : List (Int × Int)) (all : List Int) (from_ : Int) (pairs : List Int) (t24 : List Y1_0) (t25 : Int) (t26 : Int) : Option Y1_5 := iter (R := ((Int × Int × List (Int × Int)) × Bool × Unit) × Unit) c26_L7 (b26_7 k) j ((), (c, c1, c2, ()), all, from_, pairs, t24, t25, t26, ())
theorem L26_7_s (k : Nat) (j : Nat) (c : Int) (c1 : Int) (c2 : List (Int × Int)) (all : List Int) (from_ : Int) (pairs : List Int) (t24 : List Y1_0) (t25 : Int) (t26 : Int) : L26_7 k (j + 1) c c1 c2 all from_ pairs t24 t25 t26 = l26_7 k (L26_7 k j) c c1 c2 all from_ pairs t24 t25 t26 := iter_succ _ _ _ _
noncomputable def S26 (k : Nat) (l_ : List Y1_0) : Option Y1_5 :=
 (S18 k l_).bind fun q0 =>
 (bif !q0.1.1 then
  some (((0, 0, []), false, ()), ())
 else
  (S48 k l_).bind fun q1 =>
  (S19 k l_).bind fun q2 =>
  (S49 k q1.1.1).bind fun q3 =>
  L26_7 k k q3.1.1 0 ([] : List (Int × Int)) q1.1.1 0 q2.1.1 l_ (l_.length : Int) 0)
noncomputable def E26 : Env := tab.env (lk [(18, F18), (19, F19), (48, F48), (49, F49)]) (hintL [(2, 2)])
theorem E26_ok : EnvOK Try.prog E26 := envOK_of tabOK _ _ (allFn_lk (l := [(18, F18), (19, F19), (48, F48), (49, F49)]) ⟨ok18, ok19, ok48, ok49, trivial⟩)
noncomputable def B26 (k : Nat) : Tbl (RD R26 × MD P26) := (.loop 7 c26_L7 (b26_7 k) (fun g => .nil) .nil)
noncomputable def F26 : Fn := ⟨P26, R26, fun k x => S26 k x.1⟩
theorem ok26 : FnOK Try.prog 26 F26 := evalF_ok (E := E26) (T := B26) E26_ok mix Try.func26 rfl (by kernel_rfl) (by kernel_rfl) (fun k => by kernel_rfl) (fun k x => by kernel_rfl)
noncomputable abbrev P25 : List PT := []
noncomputable abbrev R25 : List RT := [.val ⟨false, .bool, true⟩]
noncomputable def S25 (k : Nat) : Option Y1_10 :=
 (S26 k ([(1, 0, 0, 0), (11, 0, 0, 0), (9, 0, 0, 0), (10, 0, 0, 0), (0, 0, 0, 0)] : List Y1_0)).bind fun q0 =>
 (S26 k []).bind fun q1 =>
 (bif q0.1.2.1 then
  (bif q0.1.1.1 == 5 then
   (bif q0.1.1.2.1 == 3 then
    (bif (q0.1.1.2.2.length : Int) == 1 then
     ix q0.1.1.2.2 0 <|
     (bif (rd q0.1.1.2.2 0 (0, 0)).2 == 1 then
      some ((!q1.1.2.1, ()), ())
     else
      some ((false, ()), ()))
    else
     some ((false, ()), ()))
   else
    some ((false, ()), ()))
  else
   some ((false, ()), ()))
 else
  some ((false, ()), ()))
noncomputable def E25 : Env := tab.env (lk [(26, F26)]) (hintL [])
theorem E25_ok : EnvOK Try.prog E25 := envOK_of tabOK _ _ (allFn_lk (l := [(26, F26)]) ⟨ok26, trivial⟩)
noncomputable def B25 (k : Nat) : Tbl (RD R25 × MD P25) := .nil
noncomputable def F25 : Fn := ⟨P25, R25, fun k x => S25 k ⟩
theorem ok25 : FnOK Try.prog 25 F25 := evalF_ok (E := E25) (T := B25) E25_ok mix Try.func25 rfl (by kernel_rfl) (by kernel_rfl) (fun k => by kernel_rfl) (fun k x => by kernel_rfl)
noncomputable abbrev P14 : List PT := [.val ⟨false, Y1_15, false⟩]
noncomputable abbrev R14 : List RT := [.pv (.box 60 [.cell Y1_15, .cell (.int .i64)])]
noncomputable def S14 (k : Nat) (l_ : List Int) : Option ((Y1_9 × Unit) × Unit) :=
 some (((l_, 0, ()), ()), ())
noncomputable def E14 : Env := tab.env (lk []) (hintL [])
theorem E14_ok : EnvOK Try.prog E14 := envOK_of tabOK _ _ (fun f F h => by cases h)
noncomputable def B14 (k : Nat) : Tbl (RD R14 × MD P14) := .nil
noncomputable def F14 : Fn := ⟨P14, R14, fun k x => S14 k x.1⟩
theorem ok14 : FnOK Try.prog 14 F14 := evalF_ok (E := E14) (T := B14) E14_ok mix Try.func14 rfl (by kernel_rfl) (by kernel_rfl) (fun k => by kernel_rfl) (fun k x => by kernel_rfl)
noncomputable abbrev P29 : List PT := [.mbox 60 [.cell Y1_15, .cell (.int .i64)], .val ⟨false, (.int .i64), false⟩]
noncomputable abbrev R29 : List RT := [.val ⟨false, (.int .i64), true⟩]
noncomputable def S29 (k : Nat) (p : List Int) (p1 : Int) (m : Int) : Option ((Int × Unit) × Y1_9 × Unit) :=
 (bif decide (p1 ≥ (p.length : Int)) then
  some ((0, ()), (p, p1, ()), ())
 else
  ix p (IntKind.i64.wrap ((IntKind.i64.wrap (p1 + 1)) - 1)) <|
  nz m <|
  some ((Int.tmod (IntKind.i64.wrap (rd p (IntKind.i64.wrap ((IntKind.i64.wrap (p1 + 1)) - 1)) 0)) m, ()), (p, IntKind.i64.wrap (p1 + 1), ()), ()))
noncomputable def E29 : Env := tab.env (lk []) (hintL [])
theorem E29_ok : EnvOK Try.prog E29 := envOK_of tabOK _ _ (fun f F h => by cases h)
noncomputable def B29 (k : Nat) : Tbl (RD R29 × MD P29) := .nil
noncomputable def F29 : Fn := ⟨P29, R29, fun k x => S29 k x.1.1 x.1.2.1 x.2.1⟩
theorem ok29 : FnOK Try.prog 29 F29 := evalF_ok (E := E29) (T := B29) E29_ok mix Try.func29 rfl (by kernel_rfl) (by kernel_rfl) (fun k => by kernel_rfl) (fun k x => by kernel_rfl)
noncomputable abbrev P31 : List PT := [.mbox 60 [.cell Y1_15, .cell (.int .i64)]]
noncomputable abbrev R31 : List RT := [.val ⟨true, Y1_1, true⟩]
noncomputable def S31 (k : Nat) (p : List Int) (p1 : Int) : Option ((Y1_0 × Unit) × Y1_9 × Unit) :=
 (S29 k p p1 3).bind fun q0 =>
 (S29 k q0.2.1.1 q0.2.1.2.1 3).bind fun q1 =>
 (S29 k q1.2.1.1 q1.2.1.2.1 6).bind fun q2 =>
 (bif q2.1.1 == 0 then
  (S29 k q2.2.1.1 q2.2.1.2.1 9).bind fun q3 =>
  some (((1, q0.1.1, 0, IntKind.i64.wrap (q3.1.1 - 4)), ()), (q3.2.1.1, q3.2.1.2.1, ()), ())
 else
  (bif q2.1.1 == 1 then
   some (((2, q0.1.1, q1.1.1, 0), ()), (q2.2.1.1, q2.2.1.2.1, ()), ())
  else
   (bif q2.1.1 == 2 then
    some (((3, q0.1.1, q1.1.1, 0), ()), (q2.2.1.1, q2.2.1.2.1, ()), ())
   else
    (bif q2.1.1 == 3 then
     some (((4, q0.1.1, q1.1.1, 0), ()), (q2.2.1.1, q2.2.1.2.1, ()), ())
    else
     (bif q2.1.1 == 4 then
      (S29 k q2.2.1.1 q2.2.1.2.1 7).bind fun q4 =>
      some (((5, q0.1.1, 0, IntKind.i64.wrap (q4.1.1 - 3)), ()), (q4.2.1.1, q4.2.1.2.1, ()), ())
     else
      (S29 k q2.2.1.1 q2.2.1.2.1 64).bind fun q5 =>
      some (((6, q0.1.1, 0, IntKind.i64.wrap (1 + q5.1.1)), ()), (q5.2.1.1, q5.2.1.2.1, ()), ()))))))
noncomputable def E31 : Env := tab.env (lk [(29, F29)]) (hintL [])
theorem E31_ok : EnvOK Try.prog E31 := envOK_of tabOK _ _ (allFn_lk (l := [(29, F29)]) ⟨ok29, trivial⟩)
noncomputable def B31 (k : Nat) : Tbl (RD R31 × MD P31) := .nil
noncomputable def F31 : Fn := ⟨P31, R31, fun k x => S31 k x.1.1 x.1.2.1⟩
theorem ok31 : FnOK Try.prog 31 F31 := evalF_ok (E := E31) (T := B31) E31_ok mix Try.func31 rfl (by kernel_rfl) (by kernel_rfl) (fun k => by kernel_rfl) (fun k x => by kernel_rfl)
noncomputable abbrev P30 : List PT := [.mbox 60 [.cell Y1_15, .cell (.int .i64)], .val ⟨false, (.int .i64), false⟩, .val ⟨false, (.int .i64), false⟩]
noncomputable abbrev R30 : List RT := [.val ⟨false, (.sl 41 Y1_1), true⟩]
noncomputable abbrev c30_L3 : Cut := ⟨[0, 2, 7, 8], [.pin false 0, .cell (.int .i64), .own 41 Y1_1, .cell (.int .i64)], [.mbox 60 [.cell Y1_15, .cell (.int .i64)]], 47⟩
noncomputable def l30_3 (k : Nat) (g3 : Y1_8) (p2 : List Int) (p3 : Int) (locks1 : Int) (l_ : List Y1_0) (i : Int) : Option Y1_2 :=
 (bif decide (i > 0) then
  (bif decide (locks1 > 0) then
   (S29 k p2 p3 4).bind fun q1 =>
   (bif q1.1.1 == 0 then
    (S29 k q1.2.1.1 q1.2.1.2.1 locks1).bind fun q2 =>
    ap l_ ([(9, q2.1.1, 0, 0)] : List Y1_0) 32 fun r3 =>
    (S31 k q2.2.1.1 q2.2.1.2.1).bind fun q4 =>
    ap r3 ([q4.1.1] : List Y1_0) 32 fun r5 =>
    ap r5 ([(10, q2.1.1, 0, 0)] : List Y1_0) 32 fun r6 =>
    g3 q4.2.1.1 q4.2.1.2.1 locks1 r6 (IntKind.i64.wrap (i - 1))
   else
    (S31 k q1.2.1.1 q1.2.1.2.1).bind fun q7 =>
    ap l_ ([q7.1.1] : List Y1_0) 32 fun r8 =>
    g3 q7.2.1.1 q7.2.1.2.1 locks1 r8 (IntKind.i64.wrap (i - 1)))
  else
   (S31 k p2 p3).bind fun q9 =>
   ap l_ ([q9.1.1] : List Y1_0) 32 fun r10 =>
   g3 q9.2.1.1 q9.2.1.2.1 locks1 r10 (IntKind.i64.wrap (i - 1)))
 else
  some ((l_, ()), (p2, p3, ()), ()))
noncomputable def b30_3 (k : Nat) (g : ((Y1_9 × Unit) × Unit × Int × (List Y1_0) × Int × Unit) → Option Y1_2) (d : (Y1_9 × Unit) × Unit × Int × (List Y1_0) × Int × Unit) : Option Y1_2 := l30_3 k (fun p2 p3 locks1 l_ i => g (((p2, p3, ()), ()), (), locks1, l_, i, ())) d.1.1.1 d.1.1.2.1 d.2.2.1 d.2.2.2.1 d.2.2.2.2.1
noncomputable def L30_3 (k : Nat) (j : Nat) (p2 : List Int) (p3 : Int) (locks1 : Int) (l_ : List Y1_0) (i : Int) : Option Y1_2 := iter (R := ((List Y1_0) × Unit) × Y1_9 × Unit) c30_L3 (b30_3 k) j (((p2, p3, ()), ()), (), locks1, l_, i, ())
theorem L30_3_s (k : Nat) (j : Nat) (p2 : List Int) (p3 : Int) (locks1 : Int) (l_ : List Y1_0) (i : Int) : L30_3 k (j + 1) p2 p3 locks1 l_ i = l30_3 k (L30_3 k j) p2 p3 locks1 l_ i := iter_succ _ _ _ _
noncomputable def S30 (k : Nat) (p : List Int) (p1 : Int) (most : Int) (locks : Int) : Option Y1_2 :=
 (S29 k p p1 most).bind fun q0 =>
 L30_3 k k q0.2.1.1 q0.2.1.2.1 locks ([] : List Y1_0) (IntKind.i64.wrap (q0.1.1 + 1))
noncomputable def E30 : Env := tab.env (lk [(29, F29), (31, F31)]) (hintL [(7, 2)])
theorem E30_ok : EnvOK Try.prog E30 := envOK_of tabOK _ _ (allFn_lk (l := [(29, F29), (31, F31)]) ⟨ok29, ok31, trivial⟩)
noncomputable def B30 (k : Nat) : Tbl (RD R30 × MD P30) := (.loop 3 c30_L3 (b30_3 k) (fun g => .nil) .nil)
noncomputable def F30 : Fn := ⟨P30, R30, fun k x => S30 k x.1.1 x.1.2.1 x.2.1 x.2.2.1⟩
theorem ok30 : FnOK Try.prog 30 F30 := evalF_ok (E := E30) (T := B30) E30_ok mix Try.func30 rfl (by kernel_rfl) (by kernel_rfl) (fun k => by kernel_rfl) (fun k x => by kernel_rfl)
noncomputable abbrev P15 : List PT := [.mbox 60 [.cell Y1_15, .cell (.int .i64)], .val ⟨false, (.int .i64), false⟩]
noncomputable abbrev R15 : List RT := [.val ⟨false, (.sl 41 Y1_1), true⟩]
noncomputable abbrev c15_J16 : Cut := ⟨[0, 1, 5, 6, 7], [.pin false 0, .cell (.int .i64), .own 41 Y1_1, .cell (.int .i64), .own 41 Y1_1], [.mbox 60 [.cell Y1_15, .cell (.int .i64)]], 66⟩
noncomputable def j15_16 (k : Nat) (g3 : Y1_8) (p4 : List Int) (p5 : Int) (locks2 : Int) (l_1 : List Y1_0) (i1 : Int) (x : List Y1_0) : Option Y1_2 :=
 (bif decide ((IntKind.i64.wrap ((l_1.length : Int) + (x.length : Int))) < 23) then
  ap l_1 x 32 fun r9 =>
  g3 p4 p5 locks2 r9 (IntKind.i64.wrap (i1 - 1))
 else
  g3 p4 p5 locks2 l_1 (IntKind.i64.wrap (i1 - 1)))
noncomputable abbrev c15_L3 : Cut := ⟨[0, 1, 5, 6], [.pin false 0, .cell (.int .i64), .own 41 Y1_1, .cell (.int .i64)], [.mbox 60 [.cell Y1_15, .cell (.int .i64)]], 66⟩
noncomputable def l15_3 (k : Nat) (g3 : Y1_8) (p2 : List Int) (p3 : Int) (locks1 : Int) (l_ : List Y1_0) (i : Int) : Option Y1_2 :=
 (bif decide (i > 0) then
  (S29 k p2 p3 5).bind fun q1 =>
  (bif q1.1.1 == 0 then
   (S30 k q1.2.1.1 q1.2.1.2.1 2 locks1).bind fun q2 =>
   (S29 k q2.2.1.1 q2.2.1.2.1 3).bind fun q3 =>
   ap ([(8, 0, (q2.1.1.length : Int), IntKind.i64.wrap (1 + q3.1.1))] : List Y1_0) q2.1.1 32 fun r4 =>
   j15_16 k g3 q3.2.1.1 q3.2.1.2.1 locks1 l_ i r4
  else
   (bif q1.1.1 == 1 then
    (S30 k q1.2.1.1 q1.2.1.2.1 2 locks1).bind fun q5 =>
    (S29 k q5.2.1.1 q5.2.1.2.1 3).bind fun q6 =>
    ap ([(7, q6.1.1, 0, (q5.1.1.length : Int))] : List Y1_0) q5.1.1 32 fun r7 =>
    j15_16 k g3 q6.2.1.1 q6.2.1.2.1 locks1 l_ i r7
   else
    (bif q1.1.1 == 2 then
     j15_16 k g3 q1.2.1.1 q1.2.1.2.1 locks1 l_ i ([(11, 0, 0, 0)] : List Y1_0)
    else
     (S30 k q1.2.1.1 q1.2.1.2.1 2 locks1).bind fun q8 =>
     j15_16 k g3 q8.2.1.1 q8.2.1.2.1 locks1 l_ i q8.1.1)))
 else
  ap l_ ([(0, 0, 0, 0)] : List Y1_0) 32 fun r10 =>
  some ((r10, ()), (p2, p3, ()), ()))
noncomputable def b15_3 (k : Nat) (g : ((Y1_9 × Unit) × Unit × Int × (List Y1_0) × Int × Unit) → Option Y1_2) (d : (Y1_9 × Unit) × Unit × Int × (List Y1_0) × Int × Unit) : Option Y1_2 := l15_3 k (fun p2 p3 locks1 l_ i => g (((p2, p3, ()), ()), (), locks1, l_, i, ())) d.1.1.1 d.1.1.2.1 d.2.2.1 d.2.2.2.1 d.2.2.2.2.1
noncomputable def L15_3 (k : Nat) (j : Nat) (p2 : List Int) (p3 : Int) (locks1 : Int) (l_ : List Y1_0) (i : Int) : Option Y1_2 := iter (R := ((List Y1_0) × Unit) × Y1_9 × Unit) c15_L3 (b15_3 k) j (((p2, p3, ()), ()), (), locks1, l_, i, ())
theorem L15_3_s (k : Nat) (j : Nat) (p2 : List Int) (p3 : Int) (locks1 : Int) (l_ : List Y1_0) (i : Int) : L15_3 k (j + 1) p2 p3 locks1 l_ i = l15_3 k (L15_3 k j) p2 p3 locks1 l_ i := iter_succ _ _ _ _
noncomputable def S15 (k : Nat) (p : List Int) (p1 : Int) (locks : Int) : Option Y1_2 :=
 (S29 k p p1 4).bind fun q0 =>
 L15_3 k k q0.2.1.1 q0.2.1.2.1 locks ([] : List Y1_0) (IntKind.i64.wrap (q0.1.1 + 1))
noncomputable def E15 : Env := tab.env (lk [(29, F29), (30, F30)]) (hintL [(5, 2)])
theorem E15_ok : EnvOK Try.prog E15 := envOK_of tabOK _ _ (allFn_lk (l := [(29, F29), (30, F30)]) ⟨ok29, ok30, trivial⟩)
noncomputable def B15 (k : Nat) : Tbl (RD R15 × MD P15) := (.loop 3 c15_L3 (b15_3 k) (fun g => (fun (g3 : Y1_8) => (.join 16 c15_J16 (fun d => j15_16 k g3 d.1.1.1 d.1.1.2.1 d.2.2.1 d.2.2.2.1 d.2.2.2.2.1 d.2.2.2.2.2.1) .nil)) (fun p2 p3 locks1 l_ i => g (((p2, p3, ()), ()), (), locks1, l_, i, ()))) .nil)
noncomputable def F15 : Fn := ⟨P15, R15, fun k x => S15 k x.1.1 x.1.2.1 x.2.1⟩
theorem ok15 : FnOK Try.prog 15 F15 := evalF_ok (E := E15) (T := B15) E15_ok mix Try.func15 rfl (by kernel_rfl) (by kernel_rfl) (fun k => by kernel_rfl) (fun k x => by kernel_rfl)
noncomputable abbrev P51 : List PT := [.val ⟨true, (.int .i64), false⟩, .val ⟨false, (.int .i64), false⟩]
noncomputable abbrev R51 : List RT := [.val ⟨false, .bool, true⟩]
noncomputable def S51 (k : Nat) (f : Int) (a : Int) : Option Y1_10 :=
 (bif decide (a ≥ 0) then
  some ((decide (a < f), ()), ())
 else
  some ((false, ()), ()))
noncomputable def E51 : Env := tab.env (lk []) (hintL [])
theorem E51_ok : EnvOK Try.prog E51 := envOK_of tabOK _ _ (fun f F h => by cases h)
noncomputable def B51 (k : Nat) : Tbl (RD R51 × MD P51) := .nil
noncomputable def F51 : Fn := ⟨P51, R51, fun k x => S51 k x.1 x.2.1⟩
theorem ok51 : FnOK Try.prog 51 F51 := evalF_ok (E := E51) (T := B51) E51_ok mix Try.func51 rfl (by kernel_rfl) (by kernel_rfl) (fun k => by kernel_rfl) (fun k x => by kernel_rfl)
end Go.Proofs.Ytjnnjciedbgmiaa.Ab
