import Derived.Test.YtnlfdfjkgaanjaaAbLib
/- Contracts, printed by this session's own program gen.py. -/
set_option linter.unusedVariables false
set_option linter.unusedSimpArgs false
set_option maxRecDepth 100000
namespace Go.Proofs.Ytnlfdfjkgaanjaa.Ab
open Go.RowKit Go.Proofs.YtnlfdfjkgaanjaaW.PrintWords
abbrev Y0_0 : Type := Int × (Int × Int) × (Int × Int) × ((List Int) × List Int) × (Int × List (Int × Int)) × Int
abbrev Y0_1 : Ty := .pair (.int .i64) (.pair (.pair (.int .i64) (.int .i64)) (.pair (.pair (.int .i64) (.int .i64)) (.pair (.pair (.sl 2 (.int .i64)) (.sl 3 (.int .i64))) (.pair (.pair (.int .u32) (.sl 163 (.pair (.int .i64) (.int .u32)))) (.int .u32)))))
abbrev Y0_2 : Type := (Int × Unit) × Unit
abbrev Y0_3 : Ty := .pair (.sl 3 (.int .i64)) (.sl 4 .bool)
abbrev Y0_4 : Type := ((List Int) × List Bool) × List Y0_0
abbrev Y0_5 : Type := ((List Int) × Unit) × Unit
abbrev Y0_6 : Type := Int × (Int × Int) × (Int × Int) × ((List Int) × List Int) × (Int × List (Int × Int)) × Int
abbrev Y0_7 : Type := ((Int × List (Int × Int)) × (List Int) × Unit) × Unit
abbrev Y0_8 : Type := Int → (List Int) → Int → Int → Option Y0_2
abbrev Y0_9 : Type := ((List ((Int × Int) × Bool)) × Unit) × Unit
abbrev Y0_10 : Type := (Y0_4 × (Int × Int) × Bool × Unit) × Unit
abbrev Y0_11 : Ty := .pair (.int .i64) (.int .u32)
abbrev Y0_12 : Ty := .pair (.int .i64) (.int .i64)
abbrev Y0_13 : Ty := .sl 3 (.int .i64)
abbrev Y0_14 : Ty := .pair Y0_3 (.sl 65 Y0_1)
abbrev Y0_15 : Type := List (Int × Int)
abbrev Y0_16 : Type := (List Int) × List Bool
abbrev Y0_17 : Type := List (Int × Int)
abbrev Y0_18 : Type := (List Int) × (List Bool) × (List Y0_0) × Unit
abbrev Y0_19 : Type := (Int × Int) × Bool
abbrev Y0_20 : Type := (Y0_4 × Unit) × Unit
noncomputable abbrev P44 : List PT := [.val ⟨false, (.int .i64), false⟩]
noncomputable abbrev R44 : List RT := [.val ⟨true, Y0_3, true⟩]
noncomputable def S44 (k : Nat) (n : Int) : Option ((Y0_16 × Unit) × Unit) :=
 mk (mn (mx n 0) 64) (mn (mx n 0) 64) 8 <|
 mk (mn (mx n 0) 64) (mn (mx n 0) 64) 1 <|
 some (((List.replicate (mn (mx n 0) 64).toNat (0 : Int), List.replicate (mn (mx n 0) 64).toNat (false : Bool)), ()), ())
noncomputable def E44 : Env := tab.env (lk []) (hintL [])
theorem E44_ok : EnvOK Try.prog E44 := envOK_of tabOK _ _ (fun f F h => by cases h)
noncomputable def B44 (k : Nat) : Tbl (RD R44 × MD P44) := .nil
noncomputable def F44 : Fn := ⟨P44, R44, fun k x => S44 k x.1⟩
theorem ok44 : FnOK Try.prog 44 F44 := evalF_ok (E := E44) (T := B44) E44_ok mix Try.func44 rfl (by kernel_rfl) (by kernel_rfl) (fun k => by kernel_rfl) (fun k x => by kernel_rfl)
noncomputable abbrev P20 : List PT := []
noncomputable abbrev R20 : List RT := [.val ⟨true, Y0_14, true⟩]
noncomputable def S20 (k : Nat) : Option Y0_20 :=
 (S44 k 12).bind fun q0 =>
 mk 12 12 128 <|
 some (((q0.1.1, List.replicate 12 ((0, (0, 0), (0, 0), ([], []), (0, []), 0) : Int × (Int × Int) × (Int × Int) × ((List Int) × List Int) × (Int × List (Int × Int)) × Int)), ()), ())
noncomputable def E20 : Env := tab.env (lk [(44, F44)]) (hintL [])
theorem E20_ok : EnvOK Try.prog E20 := envOK_of tabOK _ _ (allFn_lk (l := [(44, F44)]) ⟨ok44, trivial⟩)
noncomputable def B20 (k : Nat) : Tbl (RD R20 × MD P20) := .nil
noncomputable def F20 : Fn := ⟨P20, R20, fun k x => S20 k ⟩
theorem ok20 : FnOK Try.prog 20 F20 := evalF_ok (E := E20) (T := B20) E20_ok mix Try.func20 rfl (by kernel_rfl) (by kernel_rfl) (fun k => by kernel_rfl) (fun k x => by kernel_rfl)
noncomputable abbrev P78 : List PT := clonePs 3 (.int .i64)
noncomputable abbrev R78 : List RT := cloneRs 3 (.int .i64)
noncomputable def S78 (k : Nat) (xs : List Int) : Option Y0_5 := cloneSem 8 3 (.int .i64) k (xs, ())
noncomputable def F78 : Fn := ⟨P78, R78, cloneSem 8 3 (.int .i64)⟩
noncomputable def E78 : Env := tab.env (fun _ => none) (fun _ => 0)
theorem E78_ok : EnvOK Try.prog E78 := envOK_of tabOK _ _ (fun f F h => by cases h)
theorem ok78 : FnOK Try.prog 78 F78 := clone_ok E78_ok mix Try.func78 rfl (by kernel_rfl) (by kernel_rfl) (fun k => by kernel_rfl) (fun k xs => by kernel_rfl) (fun k xs => by kernel_rfl)
noncomputable abbrev P79 : List PT := clonePs 4 .bool
noncomputable abbrev R79 : List RT := cloneRs 4 .bool
noncomputable def S79 (k : Nat) (xs : List Bool) : Option (((List Bool) × Unit) × Unit) := cloneSem 1 4 .bool k (xs, ())
noncomputable def F79 : Fn := ⟨P79, R79, cloneSem 1 4 .bool⟩
noncomputable def E79 : Env := tab.env (fun _ => none) (fun _ => 0)
theorem E79_ok : EnvOK Try.prog E79 := envOK_of tabOK _ _ (fun f F h => by cases h)
theorem ok79 : FnOK Try.prog 79 F79 := clone_ok E79_ok mix Try.func79 rfl (by kernel_rfl) (by kernel_rfl) (fun k => by kernel_rfl) (fun k xs => by kernel_rfl) (fun k xs => by kernel_rfl)
noncomputable abbrev P87 : List PT := clonePs 2 (.int .i64)
noncomputable abbrev R87 : List RT := cloneRs 2 (.int .i64)
noncomputable def S87 (k : Nat) (xs : List Int) : Option Y0_5 := cloneSem 8 2 (.int .i64) k (xs, ())
noncomputable def F87 : Fn := ⟨P87, R87, cloneSem 8 2 (.int .i64)⟩
noncomputable def E87 : Env := tab.env (fun _ => none) (fun _ => 0)
theorem E87_ok : EnvOK Try.prog E87 := envOK_of tabOK _ _ (fun f F h => by cases h)
theorem ok87 : FnOK Try.prog 87 F87 := clone_ok E87_ok mix Try.func87 rfl (by kernel_rfl) (by kernel_rfl) (fun k => by kernel_rfl) (fun k xs => by kernel_rfl) (fun k xs => by kernel_rfl)
noncomputable abbrev P88 : List PT := clonePs 163 Y0_11
noncomputable abbrev R88 : List RT := cloneRs 163 Y0_11
noncomputable def S88 (k : Nat) (xs : Y0_17) : Option ((Y0_15 × Unit) × Unit) := cloneSem 16 163 Y0_11 k (xs, ())
noncomputable def F88 : Fn := ⟨P88, R88, cloneSem 16 163 Y0_11⟩
noncomputable def E88 : Env := tab.env (fun _ => none) (fun _ => 0)
theorem E88_ok : EnvOK Try.prog E88 := envOK_of tabOK _ _ (fun f F h => by cases h)
theorem ok88 : FnOK Try.prog 88 F88 := clone_ok E88_ok mix Try.func88 rfl (by kernel_rfl) (by kernel_rfl) (fun k => by kernel_rfl) (fun k xs => by kernel_rfl) (fun k xs => by kernel_rfl)
noncomputable abbrev P53 : List PT := [.val ⟨true, Y0_1, false⟩]
noncomputable abbrev R53 : List RT := [.val ⟨true, Y0_1, true⟩]
noncomputable def S53 (k : Nat) (x : Y0_6) : Option ((Y0_0 × Unit) × Unit) :=
 (S87 k x.2.2.2.1.1).bind fun q0 =>
 (S78 k x.2.2.2.1.2).bind fun q1 =>
 (S88 k x.2.2.2.2.1.2).bind fun q2 =>
 some (((x.1, x.2.1, x.2.2.1, (q0.1.1, q1.1.1), (x.2.2.2.2.1.1, q2.1.1), x.2.2.2.2.2), ()), ())
noncomputable def E53 : Env := tab.env (lk [(78, F78), (87, F87), (88, F88)]) (hintL [])
theorem E53_ok : EnvOK Try.prog E53 := envOK_of tabOK _ _ (allFn_lk (l := [(78, F78), (87, F87), (88, F88)]) ⟨ok78, ok87, ok88, trivial⟩)
noncomputable def B53 (k : Nat) : Tbl (RD R53 × MD P53) := .nil
noncomputable def F53 : Fn := ⟨P53, R53, fun k x => S53 k x.1⟩
theorem ok53 : FnOK Try.prog 53 F53 := evalF_ok (E := E53) (T := B53) E53_ok mix Try.func53 rfl (by kernel_rfl) (by kernel_rfl) (fun k => by kernel_rfl) (fun k x => by kernel_rfl)
noncomputable abbrev P45 : List PT := [.val ⟨true, Y0_14, false⟩]
noncomputable abbrev R45 : List RT := [.val ⟨true, Y0_14, true⟩]
noncomputable abbrev c45_L3 : Cut := ⟨[2, 3, 17, 18, 19], [.box 50 [.nil, .nil, .nil], .box 50 [.own 3 (.int .i64), .own 4 .bool, .own 65 Y0_1], .cell (.sl 65 Y0_1), .cell (.int .i64), .cell (.int .i64)], [], 32⟩
noncomputable def l45_3 (k : Nat) (g3 : (List Int) → (List Bool) → (List Y0_0) → (List Y0_0) → Int → Int → Option Y0_20) (out : List Int) (out1 : List Bool) (out2 : List Y0_0) (t17 : List Y0_0) (t18 : Int) (t19 : Int) : Option Y0_20 :=
 (bif decide (t19 < t18) then
  ix t17 t19 <|
  (S53 k (rd t17 t19 (0, (0, 0), (0, 0), ([], []), (0, []), 0))).bind fun q2 =>
  ap out2 ([q2.1.1] : List Y0_0) 128 fun r3 =>
  g3 out out1 r3 t17 t18 (IntKind.i64.wrap (t19 + 1))
 else
  some ((((out, out1), out2), ()), ()))
noncomputable def b45_3 (k : Nat) (g : ((Unit) × (Unit × Unit × Unit × Unit) × Y0_18 × (List Y0_0) × Int × Int × Unit) → Option Y0_20) (d : (Unit) × (Unit × Unit × Unit × Unit) × Y0_18 × (List Y0_0) × Int × Int × Unit) : Option Y0_20 := l45_3 k (fun out out1 out2 t17 t18 t19 => g ((), ((), (), (), ()), (out, out1, out2, ()), t17, t18, t19, ())) d.2.2.1.1 d.2.2.1.2.1 d.2.2.1.2.2.1 d.2.2.2.1 d.2.2.2.2.1 d.2.2.2.2.2.1
noncomputable def L45_3 (k : Nat) (j : Nat) (out : List Int) (out1 : List Bool) (out2 : List Y0_0) (t17 : List Y0_0) (t18 : Int) (t19 : Int) : Option Y0_20 := iter (R := (Y0_4 × Unit) × Unit) c45_L3 (b45_3 k) j ((), ((), (), (), ()), (out, out1, out2, ()), t17, t18, t19, ())
theorem L45_3_s (k : Nat) (j : Nat) (out : List Int) (out1 : List Bool) (out2 : List Y0_0) (t17 : List Y0_0) (t18 : Int) (t19 : Int) : L45_3 k (j + 1) out out1 out2 t17 t18 t19 = l45_3 k (L45_3 k j) out out1 out2 t17 t18 t19 := iter_succ _ _ _ _
noncomputable def S45 (k : Nat) (t : Y0_16 × List Y0_0) : Option Y0_20 :=
 (S78 k t.1.1).bind fun q0 =>
 (S79 k t.1.2).bind fun q1 =>
 L45_3 k k q0.1.1 q1.1.1 ([] : List Y0_0) t.2 (t.2.length : Int) 0
noncomputable def E45 : Env := tab.env (lk [(53, F53), (78, F78), (79, F79)]) (hintL [(15, 2)])
theorem E45_ok : EnvOK Try.prog E45 := envOK_of tabOK _ _ (allFn_lk (l := [(53, F53), (78, F78), (79, F79)]) ⟨ok53, ok78, ok79, trivial⟩)
noncomputable def B45 (k : Nat) : Tbl (RD R45 × MD P45) := (.loop 3 c45_L3 (b45_3 k) (fun g => .nil) .nil)
noncomputable def F45 : Fn := ⟨P45, R45, fun k x => S45 k x.1⟩
theorem ok45 : FnOK Try.prog 45 F45 := evalF_ok (E := E45) (T := B45) E45_ok mix Try.func45 rfl (by kernel_rfl) (by kernel_rfl) (fun k => by kernel_rfl) (fun k x => by kernel_rfl)
noncomputable abbrev P80 : List PT := [.val ⟨true, Y0_3, false⟩]
noncomputable abbrev R80 : List RT := [.val ⟨true, Y0_3, true⟩]
noncomputable def S80 (k : Nat) (s : (List Int) × List Bool) : Option ((Y0_16 × Unit) × Unit) :=
 (S78 k s.1).bind fun q0 =>
 (S79 k s.2).bind fun q1 =>
 some (((q0.1.1, q1.1.1), ()), ())
noncomputable def E80 : Env := tab.env (lk [(78, F78), (79, F79)]) (hintL [])
theorem E80_ok : EnvOK Try.prog E80 := envOK_of tabOK _ _ (allFn_lk (l := [(78, F78), (79, F79)]) ⟨ok78, ok79, trivial⟩)
noncomputable def B80 (k : Nat) : Tbl (RD R80 × MD P80) := .nil
noncomputable def F80 : Fn := ⟨P80, R80, fun k x => S80 k x.1⟩
theorem ok80 : FnOK Try.prog 80 F80 := evalF_ok (E := E80) (T := B80) E80_ok mix Try.func80 rfl (by kernel_rfl) (by kernel_rfl) (fun k => by kernel_rfl) (fun k x => by kernel_rfl)
noncomputable abbrev P82 : List PT := [.val ⟨true, Y0_3, false⟩]
noncomputable abbrev R82 : List RT := [.val ⟨false, (.int .i64), true⟩]
noncomputable def S82 (k : Nat) (s : (List Int) × List Bool) : Option Y0_2 :=
 some ((mn (s.1.length : Int) (s.2.length : Int), ()), ())
noncomputable def E82 : Env := tab.env (lk []) (hintL [])
theorem E82_ok : EnvOK Try.prog E82 := envOK_of tabOK _ _ (fun f F h => by cases h)
noncomputable def B82 (k : Nat) : Tbl (RD R82 × MD P82) := .nil
noncomputable def F82 : Fn := ⟨P82, R82, fun k x => S82 k x.1⟩
theorem ok82 : FnOK Try.prog 82 F82 := evalF_ok (E := E82) (T := B82) E82_ok mix Try.func82 rfl (by kernel_rfl) (by kernel_rfl) (fun k => by kernel_rfl) (fun k x => by kernel_rfl)
noncomputable abbrev P81 : List PT := [.val ⟨false, (.sl 4 .bool), false⟩, .val ⟨false, .bool, false⟩]
noncomputable abbrev R81 : List RT := [.val ⟨false, (.int .i64), true⟩]
noncomputable abbrev c81_L2 : Cut := ⟨[0, 1, 7, 8], [.cell (.sl 4 .bool), .cell .bool, .cell (.int .i64), .cell (.int .i64)], [], 19⟩
noncomputable def l81_2 (k : Nat) (g2 : (List Bool) → Bool → Int → Int → Option Y0_2) (s1 : List Bool) (v1 : Bool) (t7 : Int) (t8 : Int) : Option Y0_2 :=
 (bif decide (t8 < t7) then
  ix s1 t8 <|
  (bif v1 == (rd s1 t8 false) then
   some ((t8, ()), ())
  else
   g2 s1 v1 t7 (IntKind.i64.wrap (t8 + 1)))
 else
  some (((-1), ()), ()))
noncomputable def b81_2 (k : Nat) (g : ((Unit) × (List Bool) × Bool × Int × Int × Unit) → Option Y0_2) (d : (Unit) × (List Bool) × Bool × Int × Int × Unit) : Option Y0_2 := l81_2 k (fun s1 v1 t7 t8 => g ((), s1, v1, t7, t8, ())) d.2.1 d.2.2.1 d.2.2.2.1 d.2.2.2.2.1
noncomputable def L81_2 (k : Nat) (j : Nat) (s1 : List Bool) (v1 : Bool) (t7 : Int) (t8 : Int) : Option Y0_2 := iter (R := (Int × Unit) × Unit) c81_L2 (b81_2 k) j ((), s1, v1, t7, t8, ())
theorem L81_2_s (k : Nat) (j : Nat) (s1 : List Bool) (v1 : Bool) (t7 : Int) (t8 : Int) : L81_2 k (j + 1) s1 v1 t7 t8 = l81_2 k (L81_2 k j) s1 v1 t7 t8 := iter_succ _ _ _ _
noncomputable def S81 (k : Nat) (s : List Bool) (v : Bool) : Option Y0_2 :=
 L81_2 k k s v (s.length : Int) 0
noncomputable def E81 : Env := tab.env (lk []) (hintL [])
theorem E81_ok : EnvOK Try.prog E81 := envOK_of tabOK _ _ (fun f F h => by cases h)
noncomputable def B81 (k : Nat) : Tbl (RD R81 × MD P81) := (.loop 2 c81_L2 (b81_2 k) (fun g => .nil) .nil)
noncomputable def F81 : Fn := ⟨P81, R81, fun k x => S81 k x.1 x.2.1⟩
theorem ok81 : FnOK Try.prog 81 F81 := evalF_ok (E := E81) (T := B81) E81_ok mix Try.func81 rfl (by kernel_rfl) (by kernel_rfl) (fun k => by kernel_rfl) (fun k x => by kernel_rfl)
noncomputable abbrev P46 : List PT := [.val ⟨true, Y0_3, false⟩]
noncomputable abbrev R46 : List RT := [.val ⟨true, Y0_3, true⟩, .val ⟨true, Y0_12, true⟩, .val ⟨false, .bool, true⟩]
noncomputable def S46 (k : Nat) (s : (List Int) × List Bool) : Option ((Y0_16 × (Int × Int) × Bool × Unit) × Unit) :=
 (S80 k s).bind fun q0 =>
 (S82 k q0.1.1).bind fun q1 =>
 sx q0.1.1.2 0 q1.1.1 <|
 (S81 k (sub q0.1.1.2 0 q1.1.1) false).bind fun q2 =>
 (bif decide (q2.1.1 < 0) then
  some ((q0.1.1, (0, 0), false, ()), ())
 else
  ix q0.1.1.1 q2.1.1 <|
  ix q0.1.1.1 q2.1.1 <|
  ix q0.1.1.2 q2.1.1 <|
  ix (upd q0.1.1.1 q2.1.1 (IntKind.i64.wrap ((rd q0.1.1.1 q2.1.1 0) + 1))) q2.1.1 <|
  some (((upd q0.1.1.1 q2.1.1 (IntKind.i64.wrap ((rd q0.1.1.1 q2.1.1 0) + 1)), upd q0.1.1.2 q2.1.1 true), (q2.1.1, rd (upd q0.1.1.1 q2.1.1 (IntKind.i64.wrap ((rd q0.1.1.1 q2.1.1 0) + 1))) q2.1.1 0), true, ()), ()))
noncomputable def E46 : Env := tab.env (lk [(80, F80), (81, F81), (82, F82)]) (hintL [])
theorem E46_ok : EnvOK Try.prog E46 := envOK_of tabOK _ _ (allFn_lk (l := [(80, F80), (81, F81), (82, F82)]) ⟨ok80, ok81, ok82, trivial⟩)
noncomputable def B46 (k : Nat) : Tbl (RD R46 × MD P46) := .nil
noncomputable def F46 : Fn := ⟨P46, R46, fun k x => S46 k x.1⟩
theorem ok46 : FnOK Try.prog 46 F46 := evalF_ok (E := E46) (T := B46) E46_ok mix Try.func46 rfl (by kernel_rfl) (by kernel_rfl) (fun k => by kernel_rfl) (fun k x => by kernel_rfl)
noncomputable abbrev P48 : List PT := [.val ⟨false, (.int .i64), false⟩, .val ⟨true, Y0_12, false⟩]
noncomputable abbrev R48 : List RT := [.val ⟨true, Y0_1, true⟩]
noncomputable def S48 (k : Nat) (kind : Int) (h : Int × Int) : Option ((Y0_0 × Unit) × Unit) :=
 (bif kind == 1 then
  some (((kind, h, (8, 0), ([], []), (0, []), 0), ()), ())
 else
  some (((kind, h, (0, 0), ([], []), (0, []), 0), ()), ()))
noncomputable def E48 : Env := tab.env (lk []) (hintL [])
theorem E48_ok : EnvOK Try.prog E48 := envOK_of tabOK _ _ (fun f F h => by cases h)
noncomputable def B48 (k : Nat) : Tbl (RD R48 × MD P48) := .nil
noncomputable def F48 : Fn := ⟨P48, R48, fun k x => S48 k x.1 x.2.1⟩
theorem ok48 : FnOK Try.prog 48 F48 := evalF_ok (E := E48) (T := B48) E48_ok mix Try.func48 rfl (by kernel_rfl) (by kernel_rfl) (fun k => by kernel_rfl) (fun k x => by kernel_rfl)
noncomputable abbrev P89 : List PT := [.val ⟨false, (.sl 2 (.int .i64)), false⟩]
noncomputable abbrev R89 : List RT := [.val ⟨false, (.int .u32), true⟩]
noncomputable abbrev c89_L6 : Cut := ⟨[3, 6, 7, 8, 9, 10], [.cell (.int .u32), .cell (.int .u64), .cell (.int .i64), .cell (.sl 2 (.int .i64)), .cell (.int .i64), .cell (.int .i64)], [], 34⟩
noncomputable def l89_6 (k : Nat) (g3 : Y0_8) (g6 : Int → Int → Int → (List Int) → Int → Int → Option Y0_2) (h1 : Int) (u : Int) (i : Int) (t8_1 : List Int) (t9_1 : Int) (t10_1 : Int) : Option Y0_2 :=
 (bif decide (i < 8) then
  g6 (ixor .u32 (ior .u32 (ishl .u32 h1 5) (ishr .u32 h1 27)) (IntKind.u32.wrap (IntKind.u8.wrap u))) (ishr .u64 u 8) (IntKind.i64.wrap (i + 1)) t8_1 t9_1 t10_1
 else
  g3 h1 t8_1 t9_1 (IntKind.i64.wrap (t10_1 + 1)))
noncomputable def b89_6 (k : Nat) (g3 : Y0_8) (g : ((Unit) × Int × Int × Int × (List Int) × Int × Int × Unit) → Option Y0_2) (d : (Unit) × Int × Int × Int × (List Int) × Int × Int × Unit) : Option Y0_2 := l89_6 k g3 (fun h1 u i t8_1 t9_1 t10_1 => g ((), h1, u, i, t8_1, t9_1, t10_1, ())) d.2.1 d.2.2.1 d.2.2.2.1 d.2.2.2.2.1 d.2.2.2.2.2.1 d.2.2.2.2.2.2.1
noncomputable def L89_6 (k : Nat) (g3 : Y0_8) (j : Nat) (h1 : Int) (u : Int) (i : Int) (t8_1 : List Int) (t9_1 : Int) (t10_1 : Int) : Option Y0_2 := iter (R := (Int × Unit) × Unit) c89_L6 (b89_6 k g3) j ((), h1, u, i, t8_1, t9_1, t10_1, ())
theorem L89_6_s (k : Nat) (g3 : Y0_8) (j : Nat) (h1 : Int) (u : Int) (i : Int) (t8_1 : List Int) (t9_1 : Int) (t10_1 : Int) : L89_6 k g3 (j + 1) h1 u i t8_1 t9_1 t10_1 = l89_6 k g3 (L89_6 k g3 j) h1 u i t8_1 t9_1 t10_1 := iter_succ _ _ _ _
noncomputable abbrev c89_L3 : Cut := ⟨[3, 8, 9, 10], [.cell (.int .u32), .cell (.sl 2 (.int .i64)), .cell (.int .i64), .cell (.int .i64)], [], 34⟩
noncomputable def l89_3 (k : Nat) (g3 : Y0_8) (h : Int) (t8 : List Int) (t9 : Int) (t10 : Int) : Option Y0_2 :=
 (bif decide (t10 < t9) then
  ix t8 t10 <|
  L89_6 k g3 k h (IntKind.u64.wrap (rd t8 t10 0)) 0 t8 t9 t10
 else
  some ((h, ()), ()))
noncomputable def b89_3 (k : Nat) (g : ((Unit) × Int × (List Int) × Int × Int × Unit) → Option Y0_2) (d : (Unit) × Int × (List Int) × Int × Int × Unit) : Option Y0_2 := l89_3 k (fun h t8 t9 t10 => g ((), h, t8, t9, t10, ())) d.2.1 d.2.2.1 d.2.2.2.1 d.2.2.2.2.1
noncomputable def L89_3 (k : Nat) (j : Nat) (h : Int) (t8 : List Int) (t9 : Int) (t10 : Int) : Option Y0_2 := iter (R := (Int × Unit) × Unit) c89_L3 (b89_3 k) j ((), h, t8, t9, t10, ())
theorem L89_3_s (k : Nat) (j : Nat) (h : Int) (t8 : List Int) (t9 : Int) (t10 : Int) : L89_3 k (j + 1) h t8 t9 t10 = l89_3 k (L89_3 k j) h t8 t9 t10 := iter_succ _ _ _ _
noncomputable def S89 (k : Nat) (l_ : List Int) : Option Y0_2 :=
 L89_3 k k 2166136261 l_ (l_.length : Int) 0
noncomputable def E89 : Env := tab.env (lk []) (hintL [])
theorem E89_ok : EnvOK Try.prog E89 := envOK_of tabOK _ _ (fun f F h => by cases h)
noncomputable def B89 (k : Nat) : Tbl (RD R89 × MD P89) := (.loop 3 c89_L3 (b89_3 k) (fun g => (fun (g3 : Y0_8) => (.loop 6 c89_L6 (b89_6 k g3) (fun g => .nil) .nil)) (fun h t8 t9 t10 => g ((), h, t8, t9, t10, ()))) .nil)
noncomputable def F89 : Fn := ⟨P89, R89, fun k x => S89 k x.1⟩
theorem ok89 : FnOK Try.prog 89 F89 := evalF_ok (E := E89) (T := B89) E89_ok mix Try.func89 rfl (by kernel_rfl) (by kernel_rfl) (fun k => by kernel_rfl) (fun k x => by kernel_rfl)
noncomputable abbrev P54 : List PT := [.val ⟨true, Y0_1, false⟩]
noncomputable abbrev R54 : List RT := [.val ⟨false, (.int .u32), true⟩]
noncomputable abbrev c54_L11 : Cut := ⟨[3, 61, 62, 63], [.own 2 (.int .i64), .cell (.sl 163 Y0_11), .cell (.int .i64), .cell (.int .i64)], [], 78⟩
noncomputable def l54_11 (k : Nat) (g11 : (List Int) → Y0_15 → Int → Int → Option Y0_2) (l_1 : List Int) (t61 : Y0_17) (t62 : Int) (t63 : Int) : Option Y0_2 :=
 (bif decide (t63 < t62) then
  ix t61 t63 <|
  ap l_1 ([(rd t61 t63 (0, 0)).1, IntKind.i64.wrap (rd t61 t63 (0, 0)).2] : List Int) 8 fun r4 =>
  g11 r4 t61 t62 (IntKind.i64.wrap (t63 + 1))
 else
  (S89 k l_1).bind fun q5 =>
  some ((q5.1.1, ()), ()))
noncomputable def b54_11 (k : Nat) (g : ((Unit) × (List Int) × Y0_15 × Int × Int × Unit) → Option Y0_2) (d : (Unit) × (List Int) × Y0_15 × Int × Int × Unit) : Option Y0_2 := l54_11 k (fun l_1 t61 t62 t63 => g ((), l_1, t61, t62, t63, ())) d.2.1 d.2.2.1 d.2.2.2.1 d.2.2.2.2.1
noncomputable def L54_11 (k : Nat) (j : Nat) (l_1 : List Int) (t61 : Y0_17) (t62 : Int) (t63 : Int) : Option Y0_2 := iter (R := (Int × Unit) × Unit) c54_L11 (b54_11 k) j ((), l_1, t61, t62, t63, ())
theorem L54_11_s (k : Nat) (j : Nat) (l_1 : List Int) (t61 : Y0_17) (t62 : Int) (t63 : Int) : L54_11 k (j + 1) l_1 t61 t62 t63 = l54_11 k (L54_11 k j) l_1 t61 t62 t63 := iter_succ _ _ _ _
noncomputable abbrev c54_L5 : Cut := ⟨[1, 3, 41, 42, 43], [.box 65 [.cell (.int .i64), .cell (.int .i64), .cell (.int .i64), .cell (.int .i64), .cell (.int .i64), .cell (.sl 2 (.int .i64)), .cell Y0_13, .cell (.int .u32), .cell (.sl 163 Y0_11), .cell (.int .u32)], .own 2 (.int .i64), .cell Y0_13, .cell (.int .i64), .cell (.int .i64)], [], 78⟩
noncomputable def l54_5 (k : Nat) (g5 : Int → Int → Int → Int → Int → (List Int) → (List Int) → Int → Y0_15 → Int → (List Int) → (List Int) → Int → Int → Option Y0_2) (x1 : Int) (x2 : Int) (x3 : Int) (x4 : Int) (x5 : Int) (x6 : List Int) (x7 : List Int) (x8 : Int) (x9 : Y0_17) (x10 : Int) (l_ : List Int) (t41 : List Int) (t42 : Int) (t43 : Int) : Option Y0_2 :=
 (bif decide (t43 < t42) then
  ix t41 t43 <|
  ap l_ ([rd t41 t43 0] : List Int) 8 fun r2 =>
  g5 x1 x2 x3 x4 x5 x6 x7 x8 x9 x10 r2 t41 t42 (IntKind.i64.wrap (t43 + 1))
 else
  ap l_ ([IntKind.i64.wrap x8] : List Int) 8 fun r3 =>
  L54_11 k k r3 x9 (x9.length : Int) 0)
noncomputable def b54_5 (k : Nat) (g : ((Unit) × (Int × Int × Int × Int × Int × (List Int) × (List Int) × Int × Y0_15 × Int × Unit) × (List Int) × (List Int) × Int × Int × Unit) → Option Y0_2) (d : (Unit) × (Int × Int × Int × Int × Int × (List Int) × (List Int) × Int × Y0_15 × Int × Unit) × (List Int) × (List Int) × Int × Int × Unit) : Option Y0_2 := l54_5 k (fun x1 x2 x3 x4 x5 x6 x7 x8 x9 x10 l_ t41 t42 t43 => g ((), (x1, x2, x3, x4, x5, x6, x7, x8, x9, x10, ()), l_, t41, t42, t43, ())) d.2.1.1 d.2.1.2.1 d.2.1.2.2.1 d.2.1.2.2.2.1 d.2.1.2.2.2.2.1 d.2.1.2.2.2.2.2.1 d.2.1.2.2.2.2.2.2.1 d.2.1.2.2.2.2.2.2.2.1 d.2.1.2.2.2.2.2.2.2.2.1 d.2.1.2.2.2.2.2.2.2.2.2.1 d.2.2.1 d.2.2.2.1 d.2.2.2.2.1 d.2.2.2.2.2.1
noncomputable def L54_5 (k : Nat) (j : Nat) (x1 : Int) (x2 : Int) (x3 : Int) (x4 : Int) (x5 : Int) (x6 : List Int) (x7 : List Int) (x8 : Int) (x9 : Y0_17) (x10 : Int) (l_ : List Int) (t41 : List Int) (t42 : Int) (t43 : Int) : Option Y0_2 := iter (R := (Int × Unit) × Unit) c54_L5 (b54_5 k) j ((), (x1, x2, x3, x4, x5, x6, x7, x8, x9, x10, ()), l_, t41, t42, t43, ())
theorem L54_5_s (k : Nat) (j : Nat) (x1 : Int) (x2 : Int) (x3 : Int) (x4 : Int) (x5 : Int) (x6 : List Int) (x7 : List Int) (x8 : Int) (x9 : Y0_17) (x10 : Int) (l_ : List Int) (t41 : List Int) (t42 : Int) (t43 : Int) : L54_5 k (j + 1) x1 x2 x3 x4 x5 x6 x7 x8 x9 x10 l_ t41 t42 t43 = l54_5 k (L54_5 k j) x1 x2 x3 x4 x5 x6 x7 x8 x9 x10 l_ t41 t42 t43 := iter_succ _ _ _ _
noncomputable def S54 (k : Nat) (x : Y0_6) : Option Y0_2 :=
 ap ([x.1, x.2.1.1, x.2.1.2, x.2.2.1.1, x.2.2.1.2, (x.2.2.2.1.1.length : Int)] : List Int) x.2.2.2.1.1 8 fun r0 =>
 ap r0 ([(x.2.2.2.1.2.length : Int)] : List Int) 8 fun r1 =>
 L54_5 k k x.1 x.2.1.1 x.2.1.2 x.2.2.1.1 x.2.2.1.2 x.2.2.2.1.1 x.2.2.2.1.2 x.2.2.2.2.1.1 x.2.2.2.2.1.2 x.2.2.2.2.2 r1 x.2.2.2.1.2 (x.2.2.2.1.2.length : Int) 0
noncomputable def E54 : Env := tab.env (lk [(89, F89)]) (hintL [])
theorem E54_ok : EnvOK Try.prog E54 := envOK_of tabOK _ _ (allFn_lk (l := [(89, F89)]) ⟨ok89, trivial⟩)
noncomputable def B54 (k : Nat) : Tbl (RD R54 × MD P54) := (.loop 11 c54_L11 (b54_11 k) (fun g => .nil) (.loop 5 c54_L5 (b54_5 k) (fun g => .nil) .nil))
noncomputable def F54 : Fn := ⟨P54, R54, fun k x => S54 k x.1⟩
theorem ok54 : FnOK Try.prog 54 F54 := evalF_ok (E := E54) (T := B54) E54_ok mix Try.func54 rfl (by kernel_rfl) (by kernel_rfl) (fun k => by kernel_rfl) (fun k x => by kernel_rfl)
noncomputable abbrev P47 : List PT := [.val ⟨true, Y0_1, false⟩]
noncomputable abbrev R47 : List RT := [.val ⟨true, Y0_1, false⟩]
noncomputable def S47 (k : Nat) (x : Y0_6) : Option ((Y0_0 × Unit) × Unit) :=
 (S54 k x).bind fun q0 =>
 some (((x.1, x.2.1, x.2.2.1, x.2.2.2.1, x.2.2.2.2.1, q0.1.1), ()), ())
noncomputable def E47 : Env := tab.env (lk [(54, F54)]) (hintL [])
theorem E47_ok : EnvOK Try.prog E47 := envOK_of tabOK _ _ (allFn_lk (l := [(54, F54)]) ⟨ok54, trivial⟩)
noncomputable def B47 (k : Nat) : Tbl (RD R47 × MD P47) := .nil
noncomputable def F47 : Fn := ⟨P47, R47, fun k x => S47 k x.1⟩
theorem ok47 : FnOK Try.prog 47 F47 := evalF_ok (E := E47) (T := B47) E47_ok mix Try.func47 rfl (by kernel_rfl) (by kernel_rfl) (fun k => by kernel_rfl) (fun k x => by kernel_rfl)
noncomputable abbrev P21 : List PT := [.val ⟨true, Y0_14, false⟩, .val ⟨false, (.int .i64), false⟩]
noncomputable abbrev R21 : List RT := [.val ⟨true, Y0_14, true⟩, .val ⟨true, Y0_12, true⟩, .val ⟨false, .bool, true⟩]
noncomputable abbrev c21_L4 : Cut := ⟨[1, 4, 5, 7, 8, 9, 20, 21, 22], [.cell (.int .i64), .box 50 [.nil, .nil, .nil], .box 53 [.cell (.int .i64), .cell (.int .i64)], .mp 113 false (.int .i64) false (.int .i64), .box 50 [.own 3 (.int .i64), .own 4 .bool, .own 65 Y0_1], .cell (.int .i64), .cell (.sl 65 Y0_1), .cell (.int .i64), .cell (.int .i64)], [], 72⟩
noncomputable def l21_4 (k : Nat) (g4 : Int → Int → Int → Y0_15 → (List Int) → (List Bool) → (List Y0_0) → Int → (List Y0_0) → Int → Int → Option Y0_10) (kind1 : Int) (t5 : Int) (t5_1 : Int) (most : Y0_17) (out : List Int) (out1 : List Bool) (out2 : List Y0_0) (many : Int) (t20 : List Y0_0) (t21 : Int) (t22 : Int) : Option Y0_10 :=
 (bif decide (t22 < t21) then
  ix t20 t22 <|
  (bif (rd t20 t22 (0, (0, 0), (0, 0), ([], []), (0, []), 0)).1 == kind1 then
   g4 kind1 t5 t5_1 most out out1 out2 (IntKind.i64.wrap (many + 1)) t20 t21 (IntKind.i64.wrap (t22 + 1))
  else
   g4 kind1 t5 t5_1 most out out1 out2 many t20 t21 (IntKind.i64.wrap (t22 + 1)))
 else
  (S46 k (out, out1)).bind fun q1 =>
  (bif decide (many ≥ (mget (.int .i64) (.int .i64) kind1 most 0)) then
   some ((((out, out1), out2), (0, 0), false, ()), ())
  else
   (bif !q1.1.2.2.1 then
    some ((((out, out1), out2), (0, 0), false, ()), ())
   else
    (bif decide (q1.1.2.1.1 ≥ (out2.length : Int)) then
     some ((((out, out1), out2), (0, 0), false, ()), ())
    else
     (S48 k kind1 q1.1.2.1).bind fun q2 =>
     (S47 k q2.1.1).bind fun q3 =>
     ix out2 q1.1.2.1.1 <|
     some (((q1.1.1, upd out2 q1.1.2.1.1 q3.1.1), q1.1.2.1, true, ()), ())))))
noncomputable def b21_4 (k : Nat) (g : ((Unit) × Int × (Unit × Unit × Unit × Unit) × (Int × Int × Unit) × Y0_15 × Y0_18 × Int × (List Y0_0) × Int × Int × Unit) → Option Y0_10) (d : (Unit) × Int × (Unit × Unit × Unit × Unit) × (Int × Int × Unit) × Y0_15 × Y0_18 × Int × (List Y0_0) × Int × Int × Unit) : Option Y0_10 := l21_4 k (fun kind1 t5 t5_1 most out out1 out2 many t20 t21 t22 => g ((), kind1, ((), (), (), ()), (t5, t5_1, ()), most, (out, out1, out2, ()), many, t20, t21, t22, ())) d.2.1 d.2.2.2.1.1 d.2.2.2.1.2.1 d.2.2.2.2.1 d.2.2.2.2.2.1.1 d.2.2.2.2.2.1.2.1 d.2.2.2.2.2.1.2.2.1 d.2.2.2.2.2.2.1 d.2.2.2.2.2.2.2.1 d.2.2.2.2.2.2.2.2.1 d.2.2.2.2.2.2.2.2.2.1
noncomputable def L21_4 (k : Nat) (j : Nat) (kind1 : Int) (t5 : Int) (t5_1 : Int) (most : Y0_17) (out : List Int) (out1 : List Bool) (out2 : List Y0_0) (many : Int) (t20 : List Y0_0) (t21 : Int) (t22 : Int) : Option Y0_10 := iter (R := (Y0_4 × (Int × Int) × Bool × Unit) × Unit) c21_L4 (b21_4 k) j ((), kind1, ((), (), (), ()), (t5, t5_1, ()), most, (out, out1, out2, ()), many, t20, t21, t22, ())
theorem L21_4_s (k : Nat) (j : Nat) (kind1 : Int) (t5 : Int) (t5_1 : Int) (most : Y0_17) (out : List Int) (out1 : List Bool) (out2 : List Y0_0) (many : Int) (t20 : List Y0_0) (t21 : Int) (t22 : Int) : L21_4 k (j + 1) kind1 t5 t5_1 most out out1 out2 many t20 t21 t22 = l21_4 k (L21_4 k j) kind1 t5 t5_1 most out out1 out2 many t20 t21 t22 := iter_succ _ _ _ _
noncomputable def S21 (k : Nat) (t : Y0_16 × List Y0_0) (kind : Int) : Option Y0_10 :=
 (S45 k t).bind fun q0 =>
 L21_4 k k kind 0 0 (updD (.int .i64) (.int .i64) 3 4 (updD (.int .i64) (.int .i64) 2 4 (updD (.int .i64) (.int .i64) 1 4 ([] : List (Int × Int))))) q0.1.1.1.1 q0.1.1.1.2 q0.1.1.2 0 t.2 (t.2.length : Int) 0
noncomputable def E21 : Env := tab.env (lk [(45, F45), (46, F46), (47, F47), (48, F48)]) (hintL [])
theorem E21_ok : EnvOK Try.prog E21 := envOK_of tabOK _ _ (allFn_lk (l := [(45, F45), (46, F46), (47, F47), (48, F48)]) ⟨ok45, ok46, ok47, ok48, trivial⟩)
noncomputable def B21 (k : Nat) : Tbl (RD R21 × MD P21) := (.loop 4 c21_L4 (b21_4 k) (fun g => .nil) .nil)
noncomputable def F21 : Fn := ⟨P21, R21, fun k x => S21 k x.1 x.2.1⟩
theorem ok21 : FnOK Try.prog 21 F21 := evalF_ok (E := E21) (T := B21) E21_ok mix Try.func21 rfl (by kernel_rfl) (by kernel_rfl) (fun k => by kernel_rfl) (fun k x => by kernel_rfl)
noncomputable abbrev P86 : List PT := [.val ⟨true, Y0_3, false⟩]
noncomputable abbrev R86 : List RT := [.pv (.mp 158 true Y0_12 false .bool)]
noncomputable abbrev c86_L3 : Cut := ⟨[1, 3, 7, 8], [.box 47 [.cell Y0_13, .cell (.sl 4 .bool)], .mp 158 true Y0_12 false .bool, .cell (.int .i64), .cell (.int .i64)], [], 26⟩
noncomputable def l86_3 (k : Nat) (g3 : (List Int) → (List Bool) → (List Y0_19) → Int → Int → Option Y0_9) (s1 : List Int) (s2 : List Bool) (all : List Y0_19) (t7 : Int) (t8 : Int) : Option Y0_9 :=
 (bif decide (t8 < t7) then
  ix s2 t8 <|
  (bif rd s2 t8 false then
   ix s1 t8 <|
   g3 s1 s2 (updD Y0_12 .bool (t8, rd s1 t8 0) true all) t7 (IntKind.i64.wrap (t8 + 1))
  else
   g3 s1 s2 all t7 (IntKind.i64.wrap (t8 + 1)))
 else
  some ((all, ()), ()))
noncomputable def b86_3 (k : Nat) (g : ((Unit) × ((List Int) × (List Bool) × Unit) × (List Y0_19) × Int × Int × Unit) → Option Y0_9) (d : (Unit) × ((List Int) × (List Bool) × Unit) × (List Y0_19) × Int × Int × Unit) : Option Y0_9 := l86_3 k (fun s1 s2 all t7 t8 => g ((), (s1, s2, ()), all, t7, t8, ())) d.2.1.1 d.2.1.2.1 d.2.2.1 d.2.2.2.1 d.2.2.2.2.1
noncomputable def L86_3 (k : Nat) (j : Nat) (s1 : List Int) (s2 : List Bool) (all : List Y0_19) (t7 : Int) (t8 : Int) : Option Y0_9 := iter (R := ((List Y0_19) × Unit) × Unit) c86_L3 (b86_3 k) j ((), (s1, s2, ()), all, t7, t8, ())
theorem L86_3_s (k : Nat) (j : Nat) (s1 : List Int) (s2 : List Bool) (all : List Y0_19) (t7 : Int) (t8 : Int) : L86_3 k (j + 1) s1 s2 all t7 t8 = l86_3 k (L86_3 k j) s1 s2 all t7 t8 := iter_succ _ _ _ _
noncomputable def S86 (k : Nat) (s : (List Int) × List Bool) : Option Y0_9 :=
 (S82 k s).bind fun q0 =>
 L86_3 k k s.1 s.2 ([] : List Y0_19) q0.1.1 0
noncomputable def E86 : Env := tab.env (lk [(82, F82)]) (hintL [])
theorem E86_ok : EnvOK Try.prog E86 := envOK_of tabOK _ _ (allFn_lk (l := [(82, F82)]) ⟨ok82, trivial⟩)
noncomputable def B86 (k : Nat) : Tbl (RD R86 × MD P86) := (.loop 3 c86_L3 (b86_3 k) (fun g => .nil) .nil)
noncomputable def F86 : Fn := ⟨P86, R86, fun k x => S86 k x.1⟩
theorem ok86 : FnOK Try.prog 86 F86 := evalF_ok (E := E86) (T := B86) E86_ok mix Try.func86 rfl (by kernel_rfl) (by kernel_rfl) (fun k => by kernel_rfl) (fun k x => by kernel_rfl)
noncomputable abbrev P51 : List PT := [.val ⟨true, Y0_3, false⟩, .val ⟨true, Y0_12, false⟩]
noncomputable abbrev R51 : List RT := [.val ⟨false, .bool, true⟩]
noncomputable def S51 (k : Nat) (s : (List Int) × List Bool) (h : Int × Int) : Option ((Bool × Unit) × Unit) :=
 (S86 k s).bind fun q0 =>
 some ((mget Y0_12 .bool h q0.1.1 false, ()), ())
noncomputable def E51 : Env := tab.env (lk [(86, F86)]) (hintL [])
theorem E51_ok : EnvOK Try.prog E51 := envOK_of tabOK _ _ (allFn_lk (l := [(86, F86)]) ⟨ok86, trivial⟩)
noncomputable def B51 (k : Nat) : Tbl (RD R51 × MD P51) := .nil
noncomputable def F51 : Fn := ⟨P51, R51, fun k x => S51 k x.1 x.2.1⟩
theorem ok51 : FnOK Try.prog 51 F51 := evalF_ok (E := E51) (T := B51) E51_ok mix Try.func51 rfl (by kernel_rfl) (by kernel_rfl) (fun k => by kernel_rfl) (fun k x => by kernel_rfl)
noncomputable abbrev P52 : List PT := [.val ⟨true, Y0_14, false⟩, .val ⟨false, (.int .i64), false⟩]
noncomputable abbrev R52 : List RT := [.val ⟨false, .bool, true⟩]
noncomputable def S52 (k : Nat) (t : Y0_16 × List Y0_0) (at_ : Int) : Option ((Bool × Unit) × Unit) :=
 (bif decide (at_ ≥ 0) then
  (bif decide (at_ < (t.2.length : Int)) then
   ix t.2 at_ <|
   some (((rd t.2 at_ (0, (0, 0), (0, 0), ([], []), (0, []), 0)).1 != 0, ()), ())
  else
   some ((false, ()), ()))
 else
  some ((false, ()), ()))
noncomputable def E52 : Env := tab.env (lk []) (hintL [])
theorem E52_ok : EnvOK Try.prog E52 := envOK_of tabOK _ _ (fun f F h => by cases h)
noncomputable def B52 (k : Nat) : Tbl (RD R52 × MD P52) := .nil
noncomputable def F52 : Fn := ⟨P52, R52, fun k x => S52 k x.1 x.2.1⟩
theorem ok52 : FnOK Try.prog 52 F52 := evalF_ok (E := E52) (T := B52) E52_ok mix Try.func52 rfl (by kernel_rfl) (by kernel_rfl) (fun k => by kernel_rfl) (fun k x => by kernel_rfl)
noncomputable abbrev P23 : List PT := [.val ⟨true, Y0_14, false⟩, .val ⟨true, Y0_12, false⟩]
noncomputable abbrev R23 : List RT := [.val ⟨false, (.int .i64), true⟩, .val ⟨false, .bool, true⟩]
noncomputable def S23 (k : Nat) (t : Y0_16 × List Y0_0) (h : Int × Int) : Option ((Int × Bool × Unit) × Unit) :=
 (S51 k t.1 h).bind fun q0 =>
 (bif !q0.1.1 then
  some ((0, false, ()), ())
 else
  (S52 k t h.1).bind fun q1 =>
  (bif !q1.1.1 then
   some ((0, false, ()), ())
  else
   some ((h.1, true, ()), ())))
noncomputable def E23 : Env := tab.env (lk [(51, F51), (52, F52)]) (hintL [])
theorem E23_ok : EnvOK Try.prog E23 := envOK_of tabOK _ _ (allFn_lk (l := [(51, F51), (52, F52)]) ⟨ok51, ok52, trivial⟩)
noncomputable def B23 (k : Nat) : Tbl (RD R23 × MD P23) := .nil
noncomputable def F23 : Fn := ⟨P23, R23, fun k x => S23 k x.1 x.2.1⟩
theorem ok23 : FnOK Try.prog 23 F23 := evalF_ok (E := E23) (T := B23) E23_ok mix Try.func23 rfl (by kernel_rfl) (by kernel_rfl) (fun k => by kernel_rfl) (fun k x => by kernel_rfl)
noncomputable abbrev P24 : List PT := [.val ⟨true, Y0_14, false⟩, .val ⟨false, (.int .i64), false⟩]
noncomputable abbrev R24 : List RT := [.val ⟨true, Y0_14, true⟩, .val ⟨false, .bool, true⟩]
noncomputable def S24 (k : Nat) (t : Y0_16 × List Y0_0) (at_ : Int) : Option ((Y0_4 × Bool × Unit) × Unit) :=
 (S45 k t).bind fun q0 =>
 (S52 k t at_).bind fun q1 =>
 (bif !q1.1.1 then
  some ((q0.1.1, false, ()), ())
 else
  ix q0.1.1.2 at_ <|
  ix q0.1.1.2 at_ <|
  some (((q0.1.1.1, upd q0.1.1.2 at_ ((rd q0.1.1.2 at_ (0, (0, 0), (0, 0), ([], []), (0, []), 0)).1, (rd q0.1.1.2 at_ (0, (0, 0), (0, 0), ([], []), (0, []), 0)).2.1, (rd q0.1.1.2 at_ (0, (0, 0), (0, 0), ([], []), (0, []), 0)).2.2.1, (rd q0.1.1.2 at_ (0, (0, 0), (0, 0), ([], []), (0, []), 0)).2.2.2.1, (rd q0.1.1.2 at_ (0, (0, 0), (0, 0), ([], []), (0, []), 0)).2.2.2.2.1, inot .u32 (rd q0.1.1.2 at_ (0, (0, 0), (0, 0), ([], []), (0, []), 0)).2.2.2.2.2)), true, ()), ()))
noncomputable def E24 : Env := tab.env (lk [(45, F45), (52, F52)]) (hintL [])
theorem E24_ok : EnvOK Try.prog E24 := envOK_of tabOK _ _ (allFn_lk (l := [(45, F45), (52, F52)]) ⟨ok45, ok52, trivial⟩)
noncomputable def B24 (k : Nat) : Tbl (RD R24 × MD P24) := .nil
noncomputable def F24 : Fn := ⟨P24, R24, fun k x => S24 k x.1 x.2.1⟩
theorem ok24 : FnOK Try.prog 24 F24 := evalF_ok (E := E24) (T := B24) E24_ok mix Try.func24 rfl (by kernel_rfl) (by kernel_rfl) (fun k => by kernel_rfl) (fun k x => by kernel_rfl)
noncomputable abbrev P83 : List PT := [.val ⟨true, (.pair (.sl 2 (.int .i64)) Y0_13), false⟩]
noncomputable abbrev R83 : List RT := [.val ⟨true, (.pair (.sl 2 (.int .i64)) Y0_13), true⟩, .val ⟨false, Y0_13, true⟩]
noncomputable def S83 (k : Nat) (b : (List Int) × List Int) : Option ((((List Int) × List Int) × (List Int) × Unit) × Unit) :=
 (S78 k b.2).bind fun q0 =>
 some ((([], []), q0.1.1, ()), ())
noncomputable def E83 : Env := tab.env (lk [(78, F78)]) (hintL [])
theorem E83_ok : EnvOK Try.prog E83 := envOK_of tabOK _ _ (allFn_lk (l := [(78, F78)]) ⟨ok78, trivial⟩)
noncomputable def B83 (k : Nat) : Tbl (RD R83 × MD P83) := .nil
noncomputable def F83 : Fn := ⟨P83, R83, fun k x => S83 k x.1⟩
theorem ok83 : FnOK Try.prog 83 F83 := evalF_ok (E := E83) (T := B83) E83_ok mix Try.func83 rfl (by kernel_rfl) (by kernel_rfl) (fun k => by kernel_rfl) (fun k x => by kernel_rfl)
noncomputable abbrev P84 : List PT := [.val ⟨true, (.pair (.int .u32) (.sl 163 Y0_11)), false⟩]
noncomputable abbrev R84 : List RT := [.val ⟨true, (.pair (.int .u32) (.sl 163 Y0_11)), true⟩, .val ⟨false, Y0_13, true⟩]
noncomputable abbrev c84_L2 : Cut := ⟨[2, 3, 7, 8, 9], [.box 63 [.cell (.int .u32), .nil], .own 3 (.int .i64), .cell (.sl 163 Y0_11), .cell (.int .i64), .cell (.int .i64)], [], 21⟩
noncomputable def l84_2 (k : Nat) (g2 : Int → (List Int) → Y0_15 → Int → Int → Option Y0_7) (x : Int) (who : List Int) (t7 : Y0_17) (t8 : Int) (t9 : Int) : Option Y0_7 :=
 (bif decide (t9 < t8) then
  ix t7 t9 <|
  ap who ([(rd t7 t9 (0, 0)).1] : List Int) 8 fun r0 =>
  g2 x r0 t7 t8 (IntKind.i64.wrap (t9 + 1))
 else
  some (((x, []), who, ()), ()))
noncomputable def b84_2 (k : Nat) (g : ((Unit) × (Int × Unit × Unit) × (List Int) × Y0_15 × Int × Int × Unit) → Option Y0_7) (d : (Unit) × (Int × Unit × Unit) × (List Int) × Y0_15 × Int × Int × Unit) : Option Y0_7 := l84_2 k (fun x who t7 t8 t9 => g ((), (x, (), ()), who, t7, t8, t9, ())) d.2.1.1 d.2.2.1 d.2.2.2.1 d.2.2.2.2.1 d.2.2.2.2.2.1
noncomputable def L84_2 (k : Nat) (j : Nat) (x : Int) (who : List Int) (t7 : Y0_17) (t8 : Int) (t9 : Int) : Option Y0_7 := iter (R := ((Int × List (Int × Int)) × (List Int) × Unit) × Unit) c84_L2 (b84_2 k) j ((), (x, (), ()), who, t7, t8, t9, ())
theorem L84_2_s (k : Nat) (j : Nat) (x : Int) (who : List Int) (t7 : Y0_17) (t8 : Int) (t9 : Int) : L84_2 k (j + 1) x who t7 t8 t9 = l84_2 k (L84_2 k j) x who t7 t8 t9 := iter_succ _ _ _ _
noncomputable def S84 (k : Nat) (f : Int × List (Int × Int)) : Option Y0_7 :=
 L84_2 k k 0 ([] : List Int) f.2 (f.2.length : Int) 0
noncomputable def E84 : Env := tab.env (lk []) (hintL [(3, 2)])
theorem E84_ok : EnvOK Try.prog E84 := envOK_of tabOK _ _ (fun f F h => by cases h)
noncomputable def B84 (k : Nat) : Tbl (RD R84 × MD P84) := (.loop 2 c84_L2 (b84_2 k) (fun g => .nil) .nil)
noncomputable def F84 : Fn := ⟨P84, R84, fun k x => S84 k x.1⟩
theorem ok84 : FnOK Try.prog 84 F84 := evalF_ok (E := E84) (T := B84) E84_ok mix Try.func84 rfl (by kernel_rfl) (by kernel_rfl) (fun k => by kernel_rfl) (fun k x => by kernel_rfl)
noncomputable abbrev P102 : List PT := [.pv (.nil), .val ⟨false, (.int .i64), false⟩]
noncomputable abbrev R102 : List RT := [.val ⟨false, Y0_13, true⟩]
noncomputable def S102 (k : Nat) (n : Int) : Option Y0_5 :=
 (bif decide (n < 0) then
  none
 else
  (bif decide ((IntKind.i64.wrap (n - 0)) > 0) then
   az ([] : List Int) (IntKind.i64.wrap (n - 0)) 8 0 fun r0 =>
   sx r0 0 0 <|
   some ((r0.take 0, ()), ())
  else
   some (([], ()), ())))
noncomputable def E102 : Env := tab.env (lk []) (hintL [(25, 1)])
theorem E102_ok : EnvOK Try.prog E102 := envOK_of tabOK _ _ (fun f F h => by cases h)
noncomputable def B102 (k : Nat) : Tbl (RD R102 × MD P102) := .nil
noncomputable def F102 : Fn := ⟨P102, R102, fun k x => S102 k x.2.1⟩
theorem ok102 : FnOK Try.prog 102 F102 := evalF_ok (E := E102) (T := B102) E102_ok mix Try.func102 rfl (by kernel_rfl) (by kernel_rfl) (fun k => by kernel_rfl) (fun k x => by kernel_rfl)
noncomputable abbrev P85 : List PT := [.val ⟨false, (.sl 44 Y0_13), false⟩]
noncomputable abbrev R85 : List RT := [.val ⟨false, Y0_13, true⟩]
noncomputable abbrev c85_L11 : Cut := ⟨[6, 25, 26, 27], [.own 3 (.int .i64), .cell (.sl 44 Y0_13), .cell (.int .i64), .cell (.int .i64)], [], 36⟩
noncomputable def l85_11 (k : Nat) (g11 : (List Int) → (List (List Int)) → Int → Int → Option Y0_5) (newslice : List Int) (t25 : List (List Int)) (t26 : Int) (t27 : Int) : Option Y0_5 :=
 (bif decide (t27 < t26) then
  ix t25 t27 <|
  ap newslice (rd t25 t27 []) 8 fun r1 =>
  g11 r1 t25 t26 (IntKind.i64.wrap (t27 + 1))
 else
  some ((newslice, ()), ()))
noncomputable def b85_11 (k : Nat) (g : ((Unit) × (List Int) × (List (List Int)) × Int × Int × Unit) → Option Y0_5) (d : (Unit) × (List Int) × (List (List Int)) × Int × Int × Unit) : Option Y0_5 := l85_11 k (fun newslice t25 t26 t27 => g ((), newslice, t25, t26, t27, ())) d.2.1 d.2.2.1 d.2.2.2.1 d.2.2.2.2.1
noncomputable def L85_11 (k : Nat) (j : Nat) (newslice : List Int) (t25 : List (List Int)) (t26 : Int) (t27 : Int) : Option Y0_5 := iter (R := ((List Int) × Unit) × Unit) c85_L11 (b85_11 k) j ((), newslice, t25, t26, t27, ())
theorem L85_11_s (k : Nat) (j : Nat) (newslice : List Int) (t25 : List (List Int)) (t26 : Int) (t27 : Int) : L85_11 k (j + 1) newslice t25 t26 t27 = l85_11 k (L85_11 k j) newslice t25 t26 t27 := iter_succ _ _ _ _
noncomputable abbrev c85_L3 : Cut := ⟨[0, 3, 9, 10, 11], [.cell (.sl 44 Y0_13), .cell (.int .i64), .cell (.sl 44 Y0_13), .cell (.int .i64), .cell (.int .i64)], [], 36⟩
noncomputable def l85_3 (k : Nat) (g3 : (List (List Int)) → Int → (List (List Int)) → Int → Int → Option Y0_5) (slices1 : List (List Int)) (size : Int) (t9 : List (List Int)) (t10 : Int) (t11 : Int) : Option Y0_5 :=
 (bif decide (t11 < t10) then
  ix t9 t11 <|
  (bif decide ((IntKind.i64.wrap (size + ((rd t9 t11 []).length : Int))) < 0) then
   none
  else
   g3 slices1 (IntKind.i64.wrap (size + ((rd t9 t11 []).length : Int))) t9 t10 (IntKind.i64.wrap (t11 + 1)))
 else
  (S102 k size).bind fun q0 =>
  L85_11 k k q0.1.1 slices1 (slices1.length : Int) 0)
noncomputable def b85_3 (k : Nat) (g : ((Unit) × (List (List Int)) × Int × (List (List Int)) × Int × Int × Unit) → Option Y0_5) (d : (Unit) × (List (List Int)) × Int × (List (List Int)) × Int × Int × Unit) : Option Y0_5 := l85_3 k (fun slices1 size t9 t10 t11 => g ((), slices1, size, t9, t10, t11, ())) d.2.1 d.2.2.1 d.2.2.2.1 d.2.2.2.2.1 d.2.2.2.2.2.1
noncomputable def L85_3 (k : Nat) (j : Nat) (slices1 : List (List Int)) (size : Int) (t9 : List (List Int)) (t10 : Int) (t11 : Int) : Option Y0_5 := iter (R := ((List Int) × Unit) × Unit) c85_L3 (b85_3 k) j ((), slices1, size, t9, t10, t11, ())
theorem L85_3_s (k : Nat) (j : Nat) (slices1 : List (List Int)) (size : Int) (t9 : List (List Int)) (t10 : Int) (t11 : Int) : L85_3 k (j + 1) slices1 size t9 t10 t11 = l85_3 k (L85_3 k j) slices1 size t9 t10 t11 := iter_succ _ _ _ _
noncomputable def S85 (k : Nat) (slices : List (List Int)) : Option Y0_5 :=
 L85_3 k k slices 0 slices (slices.length : Int) 0
noncomputable def E85 : Env := tab.env (lk [(102, F102)]) (hintL [])
theorem E85_ok : EnvOK Try.prog E85 := envOK_of tabOK _ _ (allFn_lk (l := [(102, F102)]) ⟨ok102, trivial⟩)
noncomputable def B85 (k : Nat) : Tbl (RD R85 × MD P85) := (.loop 11 c85_L11 (b85_11 k) (fun g => .nil) (.loop 3 c85_L3 (b85_3 k) (fun g => .nil) .nil))
noncomputable def F85 : Fn := ⟨P85, R85, fun k x => S85 k x.1⟩
theorem ok85 : FnOK Try.prog 85 F85 := evalF_ok (E := E85) (T := B85) E85_ok mix Try.func85 rfl (by kernel_rfl) (by kernel_rfl) (fun k => by kernel_rfl) (fun k x => by kernel_rfl)
noncomputable abbrev P50 : List PT := [.val ⟨true, Y0_1, false⟩]
noncomputable abbrev R50 : List RT := [.val ⟨false, Y0_13, true⟩]
noncomputable def S50 (k : Nat) (x : Y0_6) : Option Y0_5 :=
 (S83 k x.2.2.2.1).bind fun q0 =>
 (S84 k x.2.2.2.2.1).bind fun q1 =>
 (S85 k ([q0.1.2.1, q1.1.2.1] : List (List Int))).bind fun q2 =>
 some ((q2.1.1, ()), ())
noncomputable def E50 : Env := tab.env (lk [(83, F83), (84, F84), (85, F85)]) (hintL [])
theorem E50_ok : EnvOK Try.prog E50 := envOK_of tabOK _ _ (allFn_lk (l := [(83, F83), (84, F84), (85, F85)]) ⟨ok83, ok84, ok85, trivial⟩)
noncomputable def B50 (k : Nat) : Tbl (RD R50 × MD P50) := .nil
noncomputable def F50 : Fn := ⟨P50, R50, fun k x => S50 k x.1⟩
theorem ok50 : FnOK Try.prog 50 F50 := evalF_ok (E := E50) (T := B50) E50_ok mix Try.func50 rfl (by kernel_rfl) (by kernel_rfl) (fun k => by kernel_rfl) (fun k x => by kernel_rfl)
end Go.Proofs.Ytnlfdfjkgaanjaa.Ab
