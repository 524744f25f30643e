import Derived.Test.YtmmagcjlfcicfaaGreatAbV1
/- Contracts, printed by this session's own program gen.py. -/
set_option linter.unusedVariables false
set_option linter.unusedSimpArgs false
set_option maxRecDepth 100000
namespace Go.Proofs.YtmmagcjlfcicfaaGreat.Ab
open Go.RowKit
abbrev Y2_0 : Ty := .pair (.int .i64) (.pair (.pair (.int .i64) (.int .i64)) (.pair (.pair (.int .i64) (.int .i64)) (.pair (.pair (.sl 2 (.int .i64)) (.sl 3 (.int .i64))) (.pair (.pair (.int .u32) (.sl 297 (.pair (.int .i64) (.int .u32)))) (.int .u32)))))
abbrev Y2_1 : Type := Int × (Int × Int) × (Int × Int) × ((List Int) × List Int) × (Int × List (Int × Int)) × Int
abbrev Y2_2 : Ty := .pair (.int .i64) (.pair (.int .i64) (.pair (.int .i64) (.pair (.sl 87 (.pair (.int .i64) (.pair (.int .i64) (.pair (.int .i64) (.int .i64))))) (.pair (.sl 87 (.pair (.int .i64) (.pair (.int .i64) (.pair (.int .i64) (.int .i64))))) (.sl 87 (.pair (.int .i64) (.pair (.int .i64) (.pair (.int .i64) (.int .i64)))))))))
abbrev Y2_3 : Type := Int × Int × Int × (List (Int × Int × Int × Int)) × (List (Int × Int × Int × Int)) × List (Int × Int × Int × Int)
abbrev Y2_4 : Ty := .pair (.int .i64) (.pair (.int .i64) (.pair (.int .i64) (.pair (.int .i64) (.pair (.pair (.int .i64) (.pair (arrT 8 (.int .i64)) (.pair (.sl 233 (.pair (.int .i64) (.pair (.int .i64) (.int .i64)))) .bool))) (.pair (.pair (.int .i64) (.pair (arrT 8 (.int .i64)) (.pair (.sl 233 (.pair (.int .i64) (.pair (.int .i64) (.int .i64)))) .bool))) (.pair (.sl 3 (.int .i64)) .bool))))))
abbrev Y2_5 : Type := (Int × Unit) × Unit
abbrev Y2_6 : Ty := .pair (.int .i64) (.pair (.int .i64) (.int .i64))
abbrev Y2_7 : Type := Int × Int × Int × Int
abbrev Y2_8 : Type := Int × (PN Int 8) × (List (Int × Int × Int)) × Bool
abbrev Y2_9 : Type := ((((List Int) × List Bool) × List Y2_1) × Unit) × Unit
abbrev Y2_10 : Type := Int × (Int × Int) × (Int × Int) × ((List Int) × List Int) × (Int × List (Int × Int)) × Int
abbrev Y2_11 : Ty := .pair (.sl 3 (.int .i64)) (.sl 4 .bool)
abbrev Y2_12 : Type := ((List Y2_3) × (List (PN Int 5)) × Int × Unit) × Unit
abbrev Y2_13 : Type := Int → (List Int) → Int → Int → Option Y2_5
abbrev Y2_14 : Type := ((List Int) × Unit) × Unit
abbrev Y2_15 : Ty := .pair (.int .i64) (.int .u32)
abbrev Y2_16 : Type := Int × Int × Int × Int × Y2_8 × Y2_8 × (List Int) × Bool
abbrev Y2_17 : Ty := .pair (.int .i64) Y2_6
abbrev Y2_18 : Type := Int × Int × Int × Int × Int × (List Int) × (List Int) × Int × (List (Int × Int)) × Int × Unit
noncomputable abbrev P28 : List PT := [.val ⟨false, (.sl 77 Y2_2), false⟩, .val ⟨true, Y2_2, false⟩, .val ⟨false, (.int .i64), false⟩]
noncomputable abbrev R28 : List RT := [.val ⟨false, (.sl 77 Y2_2), true⟩, .val ⟨false, (.sl 96 (arrT 5 (.int .i64))), true⟩, .val ⟨false, (.int .i64), true⟩]
noncomputable abbrev c28_L6 : Cut := ⟨[0, 2, 4, 10, 11], [.cell (.sl 77 Y2_2), .cell (.int .i64), .box 77 [.cell (.int .i64), .cell (.int .i64), .cell (.int .i64), .cell (.sl 87 Y2_17), .cell (.sl 87 Y2_17), .cell (.sl 87 Y2_17)], .cell (.int .i64), .cell (.int .i64)], [], 69, []⟩
noncomputable def l28_6 (k : Nat) (g6 : (List Y2_3) → Int → Int → Int → Int → (List Y2_7) → (List Y2_7) → (List Y2_7) → Int → Int → Option Y2_12) (l_1 : List Y2_3) (apart1 : Int) (t1 : Int) (t2 : Int) (t3 : Int) (t4 : List Y2_7) (t5 : List Y2_7) (t6 : List Y2_7) (k_ : Int) (i : Int) : Option Y2_12 :=
 (bif decide (i < (l_1.length : Int)) then
  ix l_1 i <|
  (bif (rd l_1 i (0, 0, 0, [], [], [])).1 == t1 then
   some (([], [], 11, ()), ())
  else
   ix l_1 i <|
   (bif decide ((rd l_1 i (0, 0, 0, [], [], [])).1 < t1) then
    g6 l_1 apart1 t1 t2 t3 t4 t5 t6 (IntKind.i64.wrap (i + 1)) (IntKind.i64.wrap (i + 1))
   else
    g6 l_1 apart1 t1 t2 t3 t4 t5 t6 k_ (IntKind.i64.wrap (i + 1))))
 else
  (bif decide ((l_1.length : Int) ≥ 8) then
   some (([], [], 4, ()), ())
  else
   sx l_1 0 k_ <|
   ap ([] : List Y2_3) (sub l_1 0 k_) 96 fun r1 =>
   ap r1 ([(t1, t2, t3, t4, t5, t6)] : List Y2_3) 96 fun r2 =>
   sx l_1 k_ (l_1.length : Int) <|
   ap r2 (sub l_1 k_ (l_1.length : Int)) 96 fun r3 =>
   (S69 k r3 apart1).bind fun q4 =>
   (bif q4.1.2.1 != 0 then
    some (([], [], q4.1.2.1, ()), ())
   else
    some ((r3, q4.1.1, 0, ()), ()))))
noncomputable def b28_6 (k : Nat) (g : ((Unit) × (List Y2_3) × Int × (Int × Int × Int × (List Y2_7) × (List Y2_7) × (List Y2_7) × Unit) × Int × Int × Unit) → Option Y2_12) (d : (Unit) × (List Y2_3) × Int × (Int × Int × Int × (List Y2_7) × (List Y2_7) × (List Y2_7) × Unit) × Int × Int × Unit) : Option Y2_12 := l28_6 k (fun l_1 apart1 t1 t2 t3 t4 t5 t6 k_ i => g ((), l_1, apart1, (t1, t2, t3, t4, t5, t6, ()), k_, i, ())) d.2.1 d.2.2.1 d.2.2.2.1.1 d.2.2.2.1.2.1 d.2.2.2.1.2.2.1 d.2.2.2.1.2.2.2.1 d.2.2.2.1.2.2.2.2.1 d.2.2.2.1.2.2.2.2.2.1 d.2.2.2.2.1 d.2.2.2.2.2.1
noncomputable def L28_6 (k : Nat) (j : Nat) (l_1 : List Y2_3) (apart1 : Int) (t1 : Int) (t2 : Int) (t3 : Int) (t4 : List Y2_7) (t5 : List Y2_7) (t6 : List Y2_7) (k_ : Int) (i : Int) : Option Y2_12 := iter (R := ((List Y2_3) × (List (PN Int 5)) × Int × Unit) × Unit) c28_L6 (b28_6 k) j ((), l_1, apart1, (t1, t2, t3, t4, t5, t6, ()), k_, i, ())
theorem L28_6_s (k : Nat) (j : Nat) (l_1 : List Y2_3) (apart1 : Int) (t1 : Int) (t2 : Int) (t3 : Int) (t4 : List Y2_7) (t5 : List Y2_7) (t6 : List Y2_7) (k_ : Int) (i : Int) : L28_6 k (j + 1) l_1 apart1 t1 t2 t3 t4 t5 t6 k_ i = l28_6 k (L28_6 k j) l_1 apart1 t1 t2 t3 t4 t5 t6 k_ i := iter_succ _ _ _ _
noncomputable def S28 (k : Nat) (l_ : List Y2_3) (t : Int × Int × Int × (List Y2_7) × (List Y2_7) × List Y2_7) (apart : Int) : Option Y2_12 :=
 (S68 k t).bind fun q0 =>
 (bif q0.1.1 != 0 then
  some (([], [], q0.1.1, ()), ())
 else
  L28_6 k k l_ apart t.1 t.2.1 t.2.2.1 t.2.2.2.1 t.2.2.2.2.1 t.2.2.2.2.2 0 0)
noncomputable def E28 : Env := tab.env (lk [(68, F68), (69, F69)]) (hintL [])
theorem E28_ok : EnvOK Tryz.prog E28 := envOK_of tabOK _ _ (allFn_lk (l := [(68, F68), (69, F69)]) ⟨ok68, ok69, trivial⟩)
noncomputable def B28 (k : Nat) : Tbl (RD R28 × MD P28) := (.loop 6 c28_L6 (b28_6 k) (fun g => .nil) .nil)
noncomputable def F28 : Fn := ⟨P28, R28, fun k x => S28 k x.1 x.2.1 x.2.2.1⟩
theorem ok28 : FnOK Tryz.prog 28 F28 := evalF_ok (E := E28) (T := B28) E28_ok mix Tryz.func28 rfl (by kernel_rfl) (by kernel_rfl) (fun k => by kernel_rfl) (fun k x => by kernel_rfl)
noncomputable abbrev P77 : List PT := clonePs 77 Y2_2
noncomputable abbrev R77 : List RT := cloneRs 77 Y2_2
noncomputable def S77 (k : Nat) (xs : List Y2_3) : Option (((List Y2_3) × Unit) × Unit) := cloneSem 96 77 Y2_2 k (xs, ())
noncomputable def F77 : Fn := ⟨P77, R77, cloneSem 96 77 Y2_2⟩
noncomputable def E77 : Env := tab.env (fun _ => none) (fun _ => 0)
theorem E77_ok : EnvOK Tryz.prog E77 := envOK_of tabOK _ _ (fun f F h => by cases h)
theorem ok77 : FnOK Tryz.prog 77 F77 := clone_ok E77_ok mix Tryz.func77 rfl (by kernel_rfl) (by kernel_rfl) (fun k => by kernel_rfl) (fun k xs => by kernel_rfl) (fun k xs => by kernel_rfl)
noncomputable abbrev P78 : List PT := clonePs 96 (arrT 5 (.int .i64))
noncomputable abbrev R78 : List RT := cloneRs 96 (arrT 5 (.int .i64))
noncomputable def S78 (k : Nat) (xs : List (PN Int 5)) : Option (((List (PN Int 5)) × Unit) × Unit) := cloneSem 40 96 (arrT 5 (.int .i64)) k (xs, ())
noncomputable def F78 : Fn := ⟨P78, R78, cloneSem 40 96 (arrT 5 (.int .i64))⟩
noncomputable def E78 : Env := tab.env (fun _ => none) (fun _ => 0)
theorem E78_ok : EnvOK Tryz.prog E78 := envOK_of tabOK _ _ (fun f F h => by cases h)
theorem ok78 : FnOK Tryz.prog 78 F78 := clone_ok E78_ok mix Tryz.func78 rfl (by kernel_rfl) (by kernel_rfl) (fun k => by kernel_rfl) (fun k xs => by kernel_rfl) (fun k xs => by kernel_rfl)
noncomputable abbrev P79 : List PT := clonePs 94 Y2_4
noncomputable abbrev R79 : List RT := cloneRs 94 Y2_4
noncomputable def S79 (k : Nat) (xs : List Y2_16) : Option (((List Y2_16) × Unit) × Unit) := cloneSem 272 94 Y2_4 k (xs, ())
noncomputable def F79 : Fn := ⟨P79, R79, cloneSem 272 94 Y2_4⟩
noncomputable def E79 : Env := tab.env (fun _ => none) (fun _ => 0)
theorem E79_ok : EnvOK Tryz.prog E79 := envOK_of tabOK _ _ (fun f F h => by cases h)
theorem ok79 : FnOK Tryz.prog 79 F79 := clone_ok E79_ok mix Tryz.func79 rfl (by kernel_rfl) (by kernel_rfl) (fun k => by kernel_rfl) (fun k xs => by kernel_rfl) (fun k xs => by kernel_rfl)
noncomputable abbrev P80 : List PT := clonePs 87 Y2_17
noncomputable abbrev R80 : List RT := cloneRs 87 Y2_17
noncomputable def S80 (k : Nat) (xs : List Y2_7) : Option (((List Y2_7) × Unit) × Unit) := cloneSem 32 87 Y2_17 k (xs, ())
noncomputable def F80 : Fn := ⟨P80, R80, cloneSem 32 87 Y2_17⟩
noncomputable def E80 : Env := tab.env (fun _ => none) (fun _ => 0)
theorem E80_ok : EnvOK Tryz.prog E80 := envOK_of tabOK _ _ (fun f F h => by cases h)
theorem ok80 : FnOK Tryz.prog 80 F80 := clone_ok E80_ok mix Tryz.func80 rfl (by kernel_rfl) (by kernel_rfl) (fun k => by kernel_rfl) (fun k xs => by kernel_rfl) (fun k xs => by kernel_rfl)
noncomputable abbrev P138 : List PT := clonePs 233 Y2_6
noncomputable abbrev R138 : List RT := cloneRs 233 Y2_6
noncomputable def S138 (k : Nat) (xs : List (Int × Int × Int)) : Option (((List (Int × Int × Int)) × Unit) × Unit) := cloneSem 24 233 Y2_6 k (xs, ())
noncomputable def F138 : Fn := ⟨P138, R138, cloneSem 24 233 Y2_6⟩
noncomputable def E138 : Env := tab.env (fun _ => none) (fun _ => 0)
theorem E138_ok : EnvOK Tryz.prog E138 := envOK_of tabOK _ _ (fun f F h => by cases h)
theorem ok138 : FnOK Tryz.prog 138 F138 := clone_ok E138_ok mix Tryz.func138 rfl (by kernel_rfl) (by kernel_rfl) (fun k => by kernel_rfl) (fun k xs => by kernel_rfl) (fun k xs => by kernel_rfl)
noncomputable abbrev P140 : List PT := clonePs 3 (.int .i64)
noncomputable abbrev R140 : List RT := cloneRs 3 (.int .i64)
noncomputable def S140 (k : Nat) (xs : List Int) : Option Y2_14 := cloneSem 8 3 (.int .i64) k (xs, ())
noncomputable def F140 : Fn := ⟨P140, R140, cloneSem 8 3 (.int .i64)⟩
noncomputable def E140 : Env := tab.env (fun _ => none) (fun _ => 0)
theorem E140_ok : EnvOK Tryz.prog E140 := envOK_of tabOK _ _ (fun f F h => by cases h)
theorem ok140 : FnOK Tryz.prog 140 F140 := clone_ok E140_ok mix Tryz.func140 rfl (by kernel_rfl) (by kernel_rfl) (fun k => by kernel_rfl) (fun k xs => by kernel_rfl) (fun k xs => by kernel_rfl)
noncomputable abbrev P141 : List PT := [.val ⟨false, (.int .i64), false⟩, .pv (.ref (.int .i64))]
noncomputable abbrev R141 : List RT := [.val ⟨false, .bool, true⟩]
noncomputable def S141 (k : Nat) (k_ : Int) (x1 : Int) : Option ((Bool × Unit) × Unit) :=
 some ((k_ == x1, ()), ())
noncomputable def E141 : Env := tab.env (lk []) (hintL [])
theorem E141_ok : EnvOK Tryz.prog E141 := envOK_of tabOK _ _ (fun f F h => by cases h)
noncomputable def B141 (k : Nat) : Tbl (RD R141 × MD P141) := .nil
noncomputable def F141 : Fn := ⟨P141, R141, fun k x => S141 k x.1 x.2.1⟩
theorem ok141 : FnOK Tryz.prog 141 F141 := evalF_ok (E := E141) (T := B141) E141_ok mix Tryz.func141 rfl (by kernel_rfl) (by kernel_rfl) (fun k => by kernel_rfl) (fun k x => by kernel_rfl)
noncomputable abbrev P186 : List PT := [.val ⟨false, (.sl 3 (.int .i64)), false⟩, .pv (.clo 141 [.ref (.int .i64)])]
noncomputable abbrev R186 : List RT := [.val ⟨false, (.int .i64), true⟩]
noncomputable abbrev c186_L2 : Cut := ⟨[0, 1, 7, 8], [.cell (.sl 3 (.int .i64)), .clo 141 [.ref (.int .i64)], .cell (.int .i64), .cell (.int .i64)], [], 19, []⟩
noncomputable def l186_2 (k : Nat) (g2 : (List Int) → Int → Int → Int → Option Y2_5) (s1 : List Int) (f1 : Int) (t7 : Int) (t8 : Int) : Option Y2_5 :=
 (bif decide (t8 < t7) then
  ix s1 t8 <|
  (S141 k (rd s1 t8 0) f1).bind fun q0 =>
  (bif q0.1.1 then
   some ((t8, ()), ())
  else
   g2 s1 f1 t7 (IntKind.i64.wrap (t8 + 1)))
 else
  some (((-1), ()), ()))
noncomputable def b186_2 (k : Nat) (g : ((Unit) × (List Int) × (Int × Unit) × Int × Int × Unit) → Option Y2_5) (d : (Unit) × (List Int) × (Int × Unit) × Int × Int × Unit) : Option Y2_5 := l186_2 k (fun s1 f1 t7 t8 => g ((), s1, (f1, ()), t7, t8, ())) d.2.1 d.2.2.1.1 d.2.2.2.1 d.2.2.2.2.1
noncomputable def L186_2 (k : Nat) (j : Nat) (s1 : List Int) (f1 : Int) (t7 : Int) (t8 : Int) : Option Y2_5 := iter (R := (Int × Unit) × Unit) c186_L2 (b186_2 k) j ((), s1, (f1, ()), t7, t8, ())
theorem L186_2_s (k : Nat) (j : Nat) (s1 : List Int) (f1 : Int) (t7 : Int) (t8 : Int) : L186_2 k (j + 1) s1 f1 t7 t8 = l186_2 k (L186_2 k j) s1 f1 t7 t8 := iter_succ _ _ _ _
noncomputable def S186 (k : Nat) (s : List Int) (f : Int) : Option Y2_5 :=
 L186_2 k k s f (s.length : Int) 0
noncomputable def E186 : Env := tab.env (lk [(141, F141)]) (hintL [])
theorem E186_ok : EnvOK Tryz.prog E186 := envOK_of tabOK _ _ (allFn_lk (l := [(141, F141)]) ⟨ok141, trivial⟩)
noncomputable def B186 (k : Nat) : Tbl (RD R186 × MD P186) := (.loop 2 c186_L2 (b186_2 k) (fun g => .nil) .nil)
noncomputable def F186 : Fn := ⟨P186, R186, fun k x => S186 k x.1 x.2.1.1⟩
theorem ok186 : FnOK Tryz.prog 186 F186 := evalF_ok (E := E186) (T := B186) E186_ok mix Tryz.func186 rfl (by kernel_rfl) (by kernel_rfl) (fun k => by kernel_rfl) (fun k x => by kernel_rfl)
noncomputable abbrev P139 : List PT := [.give 3 (.int .i64), .pv (.clo 141 [.ref (.int .i64)])]
noncomputable abbrev R139 : List RT := [.val ⟨false, (.sl 3 (.int .i64)), true⟩]
noncomputable abbrev c139_L5 : Cut := ⟨[0, 1, 5, 6], [.pin true 0, .clo 141 [.ref (.int .i64)], .cell (.int .i64), .cell (.int .i64)], [.mrow 3 (.int .i64)], 42, []⟩
noncomputable def l139_5 (k : Nat) (g5 : (List Int) → Int → Int → Int → Option Y2_14) (s1 : List Int) (del1 : Int) (i : Int) (j_ : Int) : Option Y2_14 :=
 (bif decide (j_ < (s1.length : Int)) then
  ix s1 j_ <|
  (S141 k (rd s1 j_ 0) del1).bind fun q1 =>
  (bif !q1.1.1 then
   ix s1 i <|
   g5 (upd s1 i (rd s1 j_ 0)) del1 (IntKind.i64.wrap (i + 1)) (IntKind.i64.wrap (j_ + 1))
  else
   g5 s1 del1 i (IntKind.i64.wrap (j_ + 1)))
 else
  sx s1 i (s1.length : Int) <|
  sx (clr s1 i (s1.length : Int) 0) 0 i <|
  some (((clr s1 i (s1.length : Int) 0).take i.toNat, ()), ()))
noncomputable def b139_5 (k : Nat) (g : (((List Int) × Unit) × Unit × (Int × Unit) × Int × Int × Unit) → Option Y2_14) (d : ((List Int) × Unit) × Unit × (Int × Unit) × Int × Int × Unit) : Option Y2_14 := l139_5 k (fun s1 del1 i j_ => g ((s1, ()), (), (del1, ()), i, j_, ())) d.1.1 d.2.2.1.1 d.2.2.2.1 d.2.2.2.2.1
noncomputable def L139_5 (k : Nat) (j : Nat) (s1 : List Int) (del1 : Int) (i : Int) (j_ : Int) : Option Y2_14 := iter (R := ((List Int) × Unit) × Unit) c139_L5 (b139_5 k) j ((s1, ()), (), (del1, ()), i, j_, ())
theorem L139_5_s (k : Nat) (j : Nat) (s1 : List Int) (del1 : Int) (i : Int) (j_ : Int) : L139_5 k (j + 1) s1 del1 i j_ = l139_5 k (L139_5 k j) s1 del1 i j_ := iter_succ _ _ _ _
noncomputable def S139 (k : Nat) (s : List Int) (del : Int) : Option Y2_14 :=
 (S186 k s del).bind fun q0 =>
 (bif q0.1.1 == (-1) then
  some ((s, ()), ())
 else
  L139_5 k k s del q0.1.1 (IntKind.i64.wrap (q0.1.1 + 1)))
noncomputable def E139 : Env := tab.env (lk [(141, F141), (186, F186)]) (hintL [(41, 1)])
theorem E139_ok : EnvOK Tryz.prog E139 := envOK_of tabOK _ _ (allFn_lk (l := [(141, F141), (186, F186)]) ⟨ok141, ok186, trivial⟩)
noncomputable def B139 (k : Nat) : Tbl (RD R139 × MD P139) := (.loop 5 c139_L5 (b139_5 k) (fun g => .nil) .nil)
noncomputable def F139 : Fn := ⟨P139, R139, fun k x => S139 k x.1 x.2.1.1⟩
theorem ok139 : FnOK Tryz.prog 139 F139 := evalF_ok (E := E139) (T := B139) E139_ok mix Tryz.func139 rfl (by kernel_rfl) (by kernel_rfl) (fun k => by kernel_rfl) (fun k x => by kernel_rfl)
noncomputable abbrev P81 : List PT := [.val ⟨true, Y2_4, false⟩, .val ⟨false, (.int .i64), false⟩]
noncomputable abbrev R81 : List RT := [.val ⟨true, Y2_4, true⟩]
noncomputable def S81 (k : Nat) (j_ : Int × Int × Int × Int × Y2_8 × Y2_8 × (List Int) × Bool) (s : Int) : Option ((Y2_16 × Unit) × Unit) :=
 (S138 k j_.2.2.2.2.1.2.2.1).bind fun q0 =>
 (S138 k j_.2.2.2.2.2.1.2.2.1).bind fun q1 =>
 (S140 k j_.2.2.2.2.2.2.1).bind fun q2 =>
 (S139 k q2.1.1 s).bind fun q3 =>
 some (((j_.1, j_.2.1, j_.2.2.1, j_.2.2.2.1, (j_.2.2.2.2.1.1, j_.2.2.2.2.1.2.1, q0.1.1, j_.2.2.2.2.1.2.2.2), (j_.2.2.2.2.2.1.1, j_.2.2.2.2.2.1.2.1, q1.1.1, j_.2.2.2.2.2.1.2.2.2), q3.1.1, j_.2.2.2.2.2.2.2), ()), ())
noncomputable def E81 : Env := tab.env (lk [(138, F138), (139, F139), (140, F140)]) (hintL [])
theorem E81_ok : EnvOK Tryz.prog E81 := envOK_of tabOK _ _ (allFn_lk (l := [(138, F138), (139, F139), (140, F140)]) ⟨ok138, ok139, ok140, trivial⟩)
noncomputable def B81 (k : Nat) : Tbl (RD R81 × MD P81) := .nil
noncomputable def F81 : Fn := ⟨P81, R81, fun k x => S81 k x.1 x.2.1⟩
theorem ok81 : FnOK Tryz.prog 81 F81 := evalF_ok (E := E81) (T := B81) E81_ok mix Tryz.func81 rfl (by kernel_rfl) (by kernel_rfl) (fun k => by kernel_rfl) (fun k x => by kernel_rfl)
noncomputable abbrev P187 : List PT := clonePs 4 .bool
noncomputable abbrev R187 : List RT := cloneRs 4 .bool
noncomputable def S187 (k : Nat) (xs : List Bool) : Option (((List Bool) × Unit) × Unit) := cloneSem 1 4 .bool k (xs, ())
noncomputable def F187 : Fn := ⟨P187, R187, cloneSem 1 4 .bool⟩
noncomputable def E187 : Env := tab.env (fun _ => none) (fun _ => 0)
theorem E187_ok : EnvOK Tryz.prog E187 := envOK_of tabOK _ _ (fun f F h => by cases h)
theorem ok187 : FnOK Tryz.prog 187 F187 := clone_ok E187_ok mix Tryz.func187 rfl (by kernel_rfl) (by kernel_rfl) (fun k => by kernel_rfl) (fun k xs => by kernel_rfl) (fun k xs => by kernel_rfl)
noncomputable abbrev P188 : List PT := clonePs 2 (.int .i64)
noncomputable abbrev R188 : List RT := cloneRs 2 (.int .i64)
noncomputable def S188 (k : Nat) (xs : List Int) : Option Y2_14 := cloneSem 8 2 (.int .i64) k (xs, ())
noncomputable def F188 : Fn := ⟨P188, R188, cloneSem 8 2 (.int .i64)⟩
noncomputable def E188 : Env := tab.env (fun _ => none) (fun _ => 0)
theorem E188_ok : EnvOK Tryz.prog E188 := envOK_of tabOK _ _ (fun f F h => by cases h)
theorem ok188 : FnOK Tryz.prog 188 F188 := clone_ok E188_ok mix Tryz.func188 rfl (by kernel_rfl) (by kernel_rfl) (fun k => by kernel_rfl) (fun k xs => by kernel_rfl) (fun k xs => by kernel_rfl)
noncomputable abbrev P189 : List PT := clonePs 297 Y2_15
noncomputable abbrev R189 : List RT := cloneRs 297 Y2_15
noncomputable def S189 (k : Nat) (xs : List (Int × Int)) : Option (((List (Int × Int)) × Unit) × Unit) := cloneSem 16 297 Y2_15 k (xs, ())
noncomputable def F189 : Fn := ⟨P189, R189, cloneSem 16 297 Y2_15⟩
noncomputable def E189 : Env := tab.env (fun _ => none) (fun _ => 0)
theorem E189_ok : EnvOK Tryz.prog E189 := envOK_of tabOK _ _ (fun f F h => by cases h)
theorem ok189 : FnOK Tryz.prog 189 F189 := clone_ok E189_ok mix Tryz.func189 rfl (by kernel_rfl) (by kernel_rfl) (fun k => by kernel_rfl) (fun k xs => by kernel_rfl) (fun k xs => by kernel_rfl)
noncomputable abbrev P145 : List PT := [.val ⟨true, Y2_0, false⟩]
noncomputable abbrev R145 : List RT := [.val ⟨true, Y2_0, true⟩]
noncomputable def S145 (k : Nat) (x : Y2_10) : Option ((Y2_1 × Unit) × Unit) :=
 (S188 k x.2.2.2.1.1).bind fun q0 =>
 (S140 k x.2.2.2.1.2).bind fun q1 =>
 (S189 k x.2.2.2.2.1.2).bind fun q2 =>
 some (((x.1, x.2.1, x.2.2.1, (q0.1.1, q1.1.1), (x.2.2.2.2.1.1, q2.1.1), x.2.2.2.2.2), ()), ())
noncomputable def E145 : Env := tab.env (lk [(140, F140), (188, F188), (189, F189)]) (hintL [])
theorem E145_ok : EnvOK Tryz.prog E145 := envOK_of tabOK _ _ (allFn_lk (l := [(140, F140), (188, F188), (189, F189)]) ⟨ok140, ok188, ok189, trivial⟩)
noncomputable def B145 (k : Nat) : Tbl (RD R145 × MD P145) := .nil
noncomputable def F145 : Fn := ⟨P145, R145, fun k x => S145 k x.1⟩
theorem ok145 : FnOK Tryz.prog 145 F145 := evalF_ok (E := E145) (T := B145) E145_ok mix Tryz.func145 rfl (by kernel_rfl) (by kernel_rfl) (fun k => by kernel_rfl) (fun k x => by kernel_rfl)
noncomputable abbrev P142 : List PT := [.val ⟨true, (.pair Y2_11 (.sl 124 Y2_0)), false⟩]
noncomputable abbrev R142 : List RT := [.val ⟨true, (.pair Y2_11 (.sl 124 Y2_0)), true⟩]
noncomputable abbrev c142_L3 : Cut := ⟨[2, 3, 17, 18, 19], [.box 33 [.nil, .nil, .nil], .box 33 [.own 3 (.int .i64), .own 4 .bool, .own 124 Y2_0], .cell (.sl 124 Y2_0), .cell (.int .i64), .cell (.int .i64)], [], 32, []⟩
noncomputable def l142_3 (k : Nat) (g3 : (List Int) → (List Bool) → (List Y2_1) → (List Y2_1) → Int → Int → Option Y2_9) (out : List Int) (out1 : List Bool) (out2 : List Y2_1) (t17 : List Y2_1) (t18 : Int) (t19 : Int) : Option Y2_9 :=
 (bif decide (t19 < t18) then
  ix t17 t19 <|
  (S145 k (rd t17 t19 (0, (0, 0), (0, 0), ([], []), (0, []), 0))).bind fun q2 =>
  ap out2 ([q2.1.1] : List Y2_1) 128 fun r3 =>
  g3 out out1 r3 t17 t18 (IntKind.i64.wrap (t19 + 1))
 else
  some ((((out, out1), out2), ()), ()))
noncomputable def b142_3 (k : Nat) (g : ((Unit) × (Unit × Unit × Unit × Unit) × ((List Int) × (List Bool) × (List Y2_1) × Unit) × (List Y2_1) × Int × Int × Unit) → Option Y2_9) (d : (Unit) × (Unit × Unit × Unit × Unit) × ((List Int) × (List Bool) × (List Y2_1) × Unit) × (List Y2_1) × Int × Int × Unit) : Option Y2_9 := l142_3 k (fun out out1 out2 t17 t18 t19 => g ((), ((), (), (), ()), (out, out1, out2, ()), t17, t18, t19, ())) d.2.2.1.1 d.2.2.1.2.1 d.2.2.1.2.2.1 d.2.2.2.1 d.2.2.2.2.1 d.2.2.2.2.2.1
noncomputable def L142_3 (k : Nat) (j : Nat) (out : List Int) (out1 : List Bool) (out2 : List Y2_1) (t17 : List Y2_1) (t18 : Int) (t19 : Int) : Option Y2_9 := iter (R := ((((List Int) × List Bool) × List Y2_1) × Unit) × Unit) c142_L3 (b142_3 k) j ((), ((), (), (), ()), (out, out1, out2, ()), t17, t18, t19, ())
theorem L142_3_s (k : Nat) (j : Nat) (out : List Int) (out1 : List Bool) (out2 : List Y2_1) (t17 : List Y2_1) (t18 : Int) (t19 : Int) : L142_3 k (j + 1) out out1 out2 t17 t18 t19 = l142_3 k (L142_3 k j) out out1 out2 t17 t18 t19 := iter_succ _ _ _ _
noncomputable def S142 (k : Nat) (t : ((List Int) × List Bool) × List Y2_1) : Option Y2_9 :=
 (S140 k t.1.1).bind fun q0 =>
 (S187 k t.1.2).bind fun q1 =>
 L142_3 k k q0.1.1 q1.1.1 ([] : List Y2_1) t.2 (t.2.length : Int) 0
noncomputable def E142 : Env := tab.env (lk [(140, F140), (145, F145), (187, F187)]) (hintL [(15, 2)])
theorem E142_ok : EnvOK Tryz.prog E142 := envOK_of tabOK _ _ (allFn_lk (l := [(140, F140), (145, F145), (187, F187)]) ⟨ok140, ok145, ok187, trivial⟩)
noncomputable def B142 (k : Nat) : Tbl (RD R142 × MD P142) := (.loop 3 c142_L3 (b142_3 k) (fun g => .nil) .nil)
noncomputable def F142 : Fn := ⟨P142, R142, fun k x => S142 k x.1⟩
theorem ok142 : FnOK Tryz.prog 142 F142 := evalF_ok (E := E142) (T := B142) E142_ok mix Tryz.func142 rfl (by kernel_rfl) (by kernel_rfl) (fun k => by kernel_rfl) (fun k x => by kernel_rfl)
noncomputable abbrev P143 : List PT := [.val ⟨true, (.pair Y2_11 (.sl 124 Y2_0)), false⟩, .val ⟨false, (.int .i64), false⟩]
noncomputable abbrev R143 : List RT := [.val ⟨false, .bool, true⟩]
noncomputable def S143 (k : Nat) (t : ((List Int) × List Bool) × List Y2_1) (at_ : Int) : Option ((Bool × Unit) × Unit) :=
 (bif decide (at_ ≥ 0) then
  (bif decide (at_ < (t.2.length : Int)) then
   ix t.2 at_ <|
   some (((rd t.2 at_ (0, (0, 0), (0, 0), ([], []), (0, []), 0)).1 != 0, ()), ())
  else
   some ((false, ()), ()))
 else
  some ((false, ()), ()))
noncomputable def E143 : Env := tab.env (lk []) (hintL [])
theorem E143_ok : EnvOK Tryz.prog E143 := envOK_of tabOK _ _ (fun f F h => by cases h)
noncomputable def B143 (k : Nat) : Tbl (RD R143 × MD P143) := .nil
noncomputable def F143 : Fn := ⟨P143, R143, fun k x => S143 k x.1 x.2.1⟩
theorem ok143 : FnOK Tryz.prog 143 F143 := evalF_ok (E := E143) (T := B143) E143_ok mix Tryz.func143 rfl (by kernel_rfl) (by kernel_rfl) (fun k => by kernel_rfl) (fun k x => by kernel_rfl)
noncomputable abbrev P190 : List PT := [.val ⟨false, (.sl 2 (.int .i64)), false⟩]
noncomputable abbrev R190 : List RT := [.val ⟨false, (.int .u32), true⟩]
noncomputable abbrev c190_L6 : Cut := ⟨[3, 6, 7, 8, 9, 10], [.cell (.int .u32), .cell (.int .u64), .cell (.int .i64), .cell (.sl 2 (.int .i64)), .cell (.int .i64), .cell (.int .i64)], [], 34, []⟩
noncomputable def l190_6 (k : Nat) (g3 : Y2_13) (g6 : Int → Int → Int → (List Int) → Int → Int → Option Y2_5) (h1 : Int) (u : Int) (i : Int) (t8_1 : List Int) (t9_1 : Int) (t10_1 : Int) : Option Y2_5 :=
 (bif decide (i < 8) then
  g6 (ixor .u32 (ior .u32 (ishl .u32 h1 5) (ishr .u32 h1 27)) (IntKind.u32.wrap (IntKind.u8.wrap u))) (ishr .u64 u 8) (IntKind.i64.wrap (i + 1)) t8_1 t9_1 t10_1
 else
  g3 h1 t8_1 t9_1 (IntKind.i64.wrap (t10_1 + 1)))
noncomputable def b190_6 (k : Nat) (g3 : Y2_13) (g : ((Unit) × Int × Int × Int × (List Int) × Int × Int × Unit) → Option Y2_5) (d : (Unit) × Int × Int × Int × (List Int) × Int × Int × Unit) : Option Y2_5 := l190_6 k g3 (fun h1 u i t8_1 t9_1 t10_1 => g ((), h1, u, i, t8_1, t9_1, t10_1, ())) d.2.1 d.2.2.1 d.2.2.2.1 d.2.2.2.2.1 d.2.2.2.2.2.1 d.2.2.2.2.2.2.1
noncomputable def L190_6 (k : Nat) (g3 : Y2_13) (j : Nat) (h1 : Int) (u : Int) (i : Int) (t8_1 : List Int) (t9_1 : Int) (t10_1 : Int) : Option Y2_5 := iter (R := (Int × Unit) × Unit) c190_L6 (b190_6 k g3) j ((), h1, u, i, t8_1, t9_1, t10_1, ())
theorem L190_6_s (k : Nat) (g3 : Y2_13) (j : Nat) (h1 : Int) (u : Int) (i : Int) (t8_1 : List Int) (t9_1 : Int) (t10_1 : Int) : L190_6 k g3 (j + 1) h1 u i t8_1 t9_1 t10_1 = l190_6 k g3 (L190_6 k g3 j) h1 u i t8_1 t9_1 t10_1 := iter_succ _ _ _ _
noncomputable abbrev c190_L3 : Cut := ⟨[3, 8, 9, 10], [.cell (.int .u32), .cell (.sl 2 (.int .i64)), .cell (.int .i64), .cell (.int .i64)], [], 34, []⟩
noncomputable def l190_3 (k : Nat) (g3 : Y2_13) (h : Int) (t8 : List Int) (t9 : Int) (t10 : Int) : Option Y2_5 :=
 (bif decide (t10 < t9) then
  ix t8 t10 <|
  L190_6 k g3 k h (IntKind.u64.wrap (rd t8 t10 0)) 0 t8 t9 t10
 else
  some ((h, ()), ()))
noncomputable def b190_3 (k : Nat) (g : ((Unit) × Int × (List Int) × Int × Int × Unit) → Option Y2_5) (d : (Unit) × Int × (List Int) × Int × Int × Unit) : Option Y2_5 := l190_3 k (fun h t8 t9 t10 => g ((), h, t8, t9, t10, ())) d.2.1 d.2.2.1 d.2.2.2.1 d.2.2.2.2.1
noncomputable def L190_3 (k : Nat) (j : Nat) (h : Int) (t8 : List Int) (t9 : Int) (t10 : Int) : Option Y2_5 := iter (R := (Int × Unit) × Unit) c190_L3 (b190_3 k) j ((), h, t8, t9, t10, ())
theorem L190_3_s (k : Nat) (j : Nat) (h : Int) (t8 : List Int) (t9 : Int) (t10 : Int) : L190_3 k (j + 1) h t8 t9 t10 = l190_3 k (L190_3 k j) h t8 t9 t10 := iter_succ _ _ _ _
noncomputable def S190 (k : Nat) (l_ : List Int) : Option Y2_5 :=
 L190_3 k k 2166136261 l_ (l_.length : Int) 0
noncomputable def E190 : Env := tab.env (lk []) (hintL [])
theorem E190_ok : EnvOK Tryz.prog E190 := envOK_of tabOK _ _ (fun f F h => by cases h)
noncomputable def B190 (k : Nat) : Tbl (RD R190 × MD P190) := (.loop 3 c190_L3 (b190_3 k) (fun g => (fun (g3 : Y2_13) => (.loop 6 c190_L6 (b190_6 k g3) (fun g => .nil) .nil)) (fun h t8 t9 t10 => g ((), h, t8, t9, t10, ()))) .nil)
noncomputable def F190 : Fn := ⟨P190, R190, fun k x => S190 k x.1⟩
theorem ok190 : FnOK Tryz.prog 190 F190 := evalF_ok (E := E190) (T := B190) E190_ok mix Tryz.func190 rfl (by kernel_rfl) (by kernel_rfl) (fun k => by kernel_rfl) (fun k x => by kernel_rfl)
noncomputable abbrev P146 : List PT := [.val ⟨true, Y2_0, false⟩]
noncomputable abbrev R146 : List RT := [.val ⟨false, (.int .u32), true⟩]
noncomputable abbrev c146_L11 : Cut := ⟨[3, 61, 62, 63], [.own 2 (.int .i64), .cell (.sl 297 Y2_15), .cell (.int .i64), .cell (.int .i64)], [], 78, []⟩
noncomputable def l146_11 (k : Nat) (g11 : (List Int) → (List (Int × Int)) → Int → Int → Option Y2_5) (l_1 : List Int) (t61 : List (Int × Int)) (t62 : Int) (t63 : Int) : Option Y2_5 :=
 (bif decide (t63 < t62) then
  ix t61 t63 <|
  ap l_1 ([(rd t61 t63 (0, 0)).1, IntKind.i64.wrap (rd t61 t63 (0, 0)).2] : List Int) 8 fun r4 =>
  g11 r4 t61 t62 (IntKind.i64.wrap (t63 + 1))
 else
  (S190 k l_1).bind fun q5 =>
  some ((q5.1.1, ()), ()))
noncomputable def b146_11 (k : Nat) (g : ((Unit) × (List Int) × (List (Int × Int)) × Int × Int × Unit) → Option Y2_5) (d : (Unit) × (List Int) × (List (Int × Int)) × Int × Int × Unit) : Option Y2_5 := l146_11 k (fun l_1 t61 t62 t63 => g ((), l_1, t61, t62, t63, ())) d.2.1 d.2.2.1 d.2.2.2.1 d.2.2.2.2.1
noncomputable def L146_11 (k : Nat) (j : Nat) (l_1 : List Int) (t61 : List (Int × Int)) (t62 : Int) (t63 : Int) : Option Y2_5 := iter (R := (Int × Unit) × Unit) c146_L11 (b146_11 k) j ((), l_1, t61, t62, t63, ())
theorem L146_11_s (k : Nat) (j : Nat) (l_1 : List Int) (t61 : List (Int × Int)) (t62 : Int) (t63 : Int) : L146_11 k (j + 1) l_1 t61 t62 t63 = l146_11 k (L146_11 k j) l_1 t61 t62 t63 := iter_succ _ _ _ _
noncomputable abbrev c146_L5 : Cut := ⟨[1, 3, 41, 42, 43], [.box 124 [.cell (.int .i64), .cell (.int .i64), .cell (.int .i64), .cell (.int .i64), .cell (.int .i64), .cell (.sl 2 (.int .i64)), .cell (.sl 3 (.int .i64)), .cell (.int .u32), .cell (.sl 297 Y2_15), .cell (.int .u32)], .own 2 (.int .i64), .cell (.sl 3 (.int .i64)), .cell (.int .i64), .cell (.int .i64)], [], 78, []⟩
noncomputable def l146_5 (k : Nat) (g5 : Int → Int → Int → Int → Int → (List Int) → (List Int) → Int → (List (Int × Int)) → Int → (List Int) → (List Int) → Int → Int → Option Y2_5) (x1 : Int) (x2 : Int) (x3 : Int) (x4 : Int) (x5 : Int) (x6 : List Int) (x7 : List Int) (x8 : Int) (x9 : List (Int × Int)) (x10 : Int) (l_ : List Int) (t41 : List Int) (t42 : Int) (t43 : Int) : Option Y2_5 :=
 (bif decide (t43 < t42) then
  ix t41 t43 <|
  ap l_ ([rd t41 t43 0] : List Int) 8 fun r2 =>
  g5 x1 x2 x3 x4 x5 x6 x7 x8 x9 x10 r2 t41 t42 (IntKind.i64.wrap (t43 + 1))
 else
  ap l_ ([IntKind.i64.wrap x8] : List Int) 8 fun r3 =>
  L146_11 k k r3 x9 (x9.length : Int) 0)
noncomputable def b146_5 (k : Nat) (g : ((Unit) × Y2_18 × (List Int) × (List Int) × Int × Int × Unit) → Option Y2_5) (d : (Unit) × Y2_18 × (List Int) × (List Int) × Int × Int × Unit) : Option Y2_5 := l146_5 k (fun x1 x2 x3 x4 x5 x6 x7 x8 x9 x10 l_ t41 t42 t43 => g ((), (x1, x2, x3, x4, x5, x6, x7, x8, x9, x10, ()), l_, t41, t42, t43, ())) d.2.1.1 d.2.1.2.1 d.2.1.2.2.1 d.2.1.2.2.2.1 d.2.1.2.2.2.2.1 d.2.1.2.2.2.2.2.1 d.2.1.2.2.2.2.2.2.1 d.2.1.2.2.2.2.2.2.2.1 d.2.1.2.2.2.2.2.2.2.2.1 d.2.1.2.2.2.2.2.2.2.2.2.1 d.2.2.1 d.2.2.2.1 d.2.2.2.2.1 d.2.2.2.2.2.1
noncomputable def L146_5 (k : Nat) (j : Nat) (x1 : Int) (x2 : Int) (x3 : Int) (x4 : Int) (x5 : Int) (x6 : List Int) (x7 : List Int) (x8 : Int) (x9 : List (Int × Int)) (x10 : Int) (l_ : List Int) (t41 : List Int) (t42 : Int) (t43 : Int) : Option Y2_5 := iter (R := (Int × Unit) × Unit) c146_L5 (b146_5 k) j ((), (x1, x2, x3, x4, x5, x6, x7, x8, x9, x10, ()), l_, t41, t42, t43, ())
theorem L146_5_s (k : Nat) (j : Nat) (x1 : Int) (x2 : Int) (x3 : Int) (x4 : Int) (x5 : Int) (x6 : List Int) (x7 : List Int) (x8 : Int) (x9 : List (Int × Int)) (x10 : Int) (l_ : List Int) (t41 : List Int) (t42 : Int) (t43 : Int) : L146_5 k (j + 1) x1 x2 x3 x4 x5 x6 x7 x8 x9 x10 l_ t41 t42 t43 = l146_5 k (L146_5 k j) x1 x2 x3 x4 x5 x6 x7 x8 x9 x10 l_ t41 t42 t43 := iter_succ _ _ _ _
noncomputable def S146 (k : Nat) (x : Y2_10) : Option Y2_5 :=
 ap ([x.1, x.2.1.1, x.2.1.2, x.2.2.1.1, x.2.2.1.2, (x.2.2.2.1.1.length : Int)] : List Int) x.2.2.2.1.1 8 fun r0 =>
 ap r0 ([(x.2.2.2.1.2.length : Int)] : List Int) 8 fun r1 =>
 L146_5 k k x.1 x.2.1.1 x.2.1.2 x.2.2.1.1 x.2.2.1.2 x.2.2.2.1.1 x.2.2.2.1.2 x.2.2.2.2.1.1 x.2.2.2.2.1.2 x.2.2.2.2.2 r1 x.2.2.2.1.2 (x.2.2.2.1.2.length : Int) 0
noncomputable def E146 : Env := tab.env (lk [(190, F190)]) (hintL [])
theorem E146_ok : EnvOK Tryz.prog E146 := envOK_of tabOK _ _ (allFn_lk (l := [(190, F190)]) ⟨ok190, trivial⟩)
noncomputable def B146 (k : Nat) : Tbl (RD R146 × MD P146) := (.loop 11 c146_L11 (b146_11 k) (fun g => .nil) (.loop 5 c146_L5 (b146_5 k) (fun g => .nil) .nil))
noncomputable def F146 : Fn := ⟨P146, R146, fun k x => S146 k x.1⟩
theorem ok146 : FnOK Tryz.prog 146 F146 := evalF_ok (E := E146) (T := B146) E146_ok mix Tryz.func146 rfl (by kernel_rfl) (by kernel_rfl) (fun k => by kernel_rfl) (fun k x => by kernel_rfl)
noncomputable abbrev P144 : List PT := [.val ⟨true, Y2_0, false⟩]
noncomputable abbrev R144 : List RT := [.val ⟨true, Y2_0, false⟩]
noncomputable def S144 (k : Nat) (x : Y2_10) : Option ((Y2_1 × Unit) × Unit) :=
 (S146 k x).bind fun q0 =>
 some (((x.1, x.2.1, x.2.2.1, x.2.2.2.1, x.2.2.2.2.1, q0.1.1), ()), ())
noncomputable def E144 : Env := tab.env (lk [(146, F146)]) (hintL [])
theorem E144_ok : EnvOK Tryz.prog E144 := envOK_of tabOK _ _ (allFn_lk (l := [(146, F146)]) ⟨ok146, trivial⟩)
noncomputable def B144 (k : Nat) : Tbl (RD R144 × MD P144) := .nil
noncomputable def F144 : Fn := ⟨P144, R144, fun k x => S144 k x.1⟩
theorem ok144 : FnOK Tryz.prog 144 F144 := evalF_ok (E := E144) (T := B144) E144_ok mix Tryz.func144 rfl (by kernel_rfl) (by kernel_rfl) (fun k => by kernel_rfl) (fun k x => by kernel_rfl)
noncomputable abbrev P82 : List PT := [.val ⟨true, (.pair Y2_11 (.sl 124 Y2_0)), false⟩, .val ⟨false, (.int .i64), false⟩, .val ⟨true, Y2_0, false⟩]
noncomputable abbrev R82 : List RT := [.val ⟨true, (.pair Y2_11 (.sl 124 Y2_0)), true⟩]
noncomputable def S82 (k : Nat) (t : ((List Int) × List Bool) × List Y2_1) (at_ : Int) (x : Y2_10) : Option Y2_9 :=
 (S142 k t).bind fun q0 =>
 (S143 k t at_).bind fun q1 =>
 (bif !q1.1.1 then
  some ((q0.1.1, ()), ())
 else
  ix t.2 at_ <|
  (S145 k ((rd t.2 at_ (0, (0, 0), (0, 0), ([], []), (0, []), 0)).1, (rd t.2 at_ (0, (0, 0), (0, 0), ([], []), (0, []), 0)).2.1, x.2.2)).bind fun q2 =>
  (S144 k q2.1.1).bind fun q3 =>
  (S146 k (rd t.2 at_ (0, (0, 0), (0, 0), ([], []), (0, []), 0))).bind fun q4 =>
  (bif (rd t.2 at_ (0, (0, 0), (0, 0), ([], []), (0, []), 0)).2.2.2.2.2 != q4.1.1 then
   ix q0.1.1.2 at_ <|
   some (((q0.1.1.1, upd q0.1.1.2 at_ (q3.1.1.1, q3.1.1.2.1, q3.1.1.2.2.1, q3.1.1.2.2.2.1, q3.1.1.2.2.2.2.1, inot .u32 q3.1.1.2.2.2.2.2)), ()), ())
  else
   ix q0.1.1.2 at_ <|
   some (((q0.1.1.1, upd q0.1.1.2 at_ q3.1.1), ()), ())))
noncomputable def E82 : Env := tab.env (lk [(142, F142), (143, F143), (144, F144), (145, F145), (146, F146)]) (hintL [])
theorem E82_ok : EnvOK Tryz.prog E82 := envOK_of tabOK _ _ (allFn_lk (l := [(142, F142), (143, F143), (144, F144), (145, F145), (146, F146)]) ⟨ok142, ok143, ok144, ok145, ok146, trivial⟩)
noncomputable def B82 (k : Nat) : Tbl (RD R82 × MD P82) := .nil
noncomputable def F82 : Fn := ⟨P82, R82, fun k x => S82 k x.1 x.2.1 x.2.2.1⟩
theorem ok82 : FnOK Tryz.prog 82 F82 := evalF_ok (E := E82) (T := B82) E82_ok mix Tryz.func82 rfl (by kernel_rfl) (by kernel_rfl) (fun k => by kernel_rfl) (fun k x => by kernel_rfl)
noncomputable abbrev P147 : List PT := [.val ⟨true, Y2_11, false⟩]
noncomputable abbrev R147 : List RT := [.val ⟨true, Y2_11, true⟩]
noncomputable def S147 (k : Nat) (w : (List Int) × List Bool) : Option ((((List Int) × List Bool) × Unit) × Unit) :=
 (S140 k w.1).bind fun q0 =>
 (S187 k w.2).bind fun q1 =>
 some (((q0.1.1, q1.1.1), ()), ())
noncomputable def E147 : Env := tab.env (lk [(140, F140), (187, F187)]) (hintL [])
theorem E147_ok : EnvOK Tryz.prog E147 := envOK_of tabOK _ _ (allFn_lk (l := [(140, F140), (187, F187)]) ⟨ok140, ok187, trivial⟩)
noncomputable def B147 (k : Nat) : Tbl (RD R147 × MD P147) := .nil
noncomputable def F147 : Fn := ⟨P147, R147, fun k x => S147 k x.1⟩
theorem ok147 : FnOK Tryz.prog 147 F147 := evalF_ok (E := E147) (T := B147) E147_ok mix Tryz.func147 rfl (by kernel_rfl) (by kernel_rfl) (fun k => by kernel_rfl) (fun k x => by kernel_rfl)
noncomputable abbrev P83 : List PT := [.val ⟨true, Y2_11, false⟩, .val ⟨false, (.int .i64), false⟩]
noncomputable abbrev R83 : List RT := [.val ⟨true, Y2_11, true⟩]
noncomputable def S83 (k : Nat) (w : (List Int) × List Bool) (i : Int) : Option ((((List Int) × List Bool) × Unit) × Unit) :=
 (S147 k w).bind fun q0 =>
 (bif decide (i ≥ 0) then
  (bif decide (i < (q0.1.1.1.length : Int)) then
   ix q0.1.1.1 i <|
   some (((upd q0.1.1.1 i 0, q0.1.1.2), ()), ())
  else
   some ((q0.1.1, ()), ()))
 else
  some ((q0.1.1, ()), ()))
noncomputable def E83 : Env := tab.env (lk [(147, F147)]) (hintL [])
theorem E83_ok : EnvOK Tryz.prog E83 := envOK_of tabOK _ _ (allFn_lk (l := [(147, F147)]) ⟨ok147, trivial⟩)
noncomputable def B83 (k : Nat) : Tbl (RD R83 × MD P83) := .nil
noncomputable def F83 : Fn := ⟨P83, R83, fun k x => S83 k x.1 x.2.1⟩
theorem ok83 : FnOK Tryz.prog 83 F83 := evalF_ok (E := E83) (T := B83) E83_ok mix Tryz.func83 rfl (by kernel_rfl) (by kernel_rfl) (fun k => by kernel_rfl) (fun k x => by kernel_rfl)
end Go.Proofs.YtmmagcjlfcicfaaGreat.Ab
