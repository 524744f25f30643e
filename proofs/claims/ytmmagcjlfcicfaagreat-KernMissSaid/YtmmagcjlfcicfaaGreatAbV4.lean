import Derived.Test.YtmmagcjlfcicfaaGreatAbV3
/- Contracts, printed by this session's own program gen.py. -/
set_option linter.unusedVariables false
set_option linter.unusedSimpArgs false
set_option maxRecDepth 100000
namespace Go.Proofs.YtmmagcjlfcicfaaGreat.Ab
open Go.RowKit
abbrev Y4_0 : Type := Int × Int × Int × Int × (Int × (PN Int 8) × (List (Int × Int × Int)) × Bool) × (Int × (PN Int 8) × (List (Int × Int × Int)) × Bool) × (List Int) × Bool
abbrev Y4_1 : Ty := .pair (.int .i64) (.pair (.int .i64) (.pair (.int .i64) (.pair (.int .i64) (.pair (.pair (.int .i64) (.pair (arrT 8 (.int .i64)) (.pair (.sl 233 (.pair (.int .i64) (.pair (.int .i64) (.int .i64)))) .bool))) (.pair (.pair (.int .i64) (.pair (arrT 8 (.int .i64)) (.pair (.sl 233 (.pair (.int .i64) (.pair (.int .i64) (.int .i64)))) .bool))) (.pair (.sl 3 (.int .i64)) .bool))))))
abbrev Y4_2 : Type := Int × Int × Int × (List (Int × Int × Int × Int)) × (List (Int × Int × Int × Int)) × List (Int × Int × Int × Int)
abbrev Y4_3 : Type := Int × (Int × Int) × (Int × Int) × ((List Int) × List Int) × (Int × List (Int × Int)) × Int
abbrev Y4_4 : Ty := .sl 77 (.pair (.int .i64) (.pair (.int .i64) (.pair (.int .i64) (.pair (.sl 87 (.pair (.int .i64) (.pair (.int .i64) (.pair (.int .i64) (.int .i64))))) (.pair (.sl 87 (.pair (.int .i64) (.pair (.int .i64) (.pair (.int .i64) (.int .i64))))) (.sl 87 (.pair (.int .i64) (.pair (.int .i64) (.pair (.int .i64) (.int .i64))))))))))
abbrev Y4_5 : Type := (Int × Int × (List Y4_2) × (List (PN Int 5)) × Bool × Bool × Bool × (List Y4_0) × (((List Int) × List Bool) × List Y4_3) × (List Int) × List Bool) × Int × Unit
abbrev Y4_6 : Type := Int × Int × (List Y4_2) × (List (PN Int 5)) × Bool × Bool × Bool × (List Y4_0) × (List Int) × (List Bool) × (List Y4_3) × (List Int) × (List Bool) × Unit
abbrev Y4_7 : Ty := .pair (.int .i64) (.pair (.pair (.int .i64) (.int .i64)) (.pair (.pair (.int .i64) (.int .i64)) (.pair (.pair (.sl 2 (.int .i64)) (.sl 3 (.int .i64))) (.pair (.pair (.int .u32) (.sl 297 (.pair (.int .i64) (.int .u32)))) (.int .u32)))))
abbrev Y4_8 : Ty := .pair (.int .i64) (.pair (.int .i64) (.pair Y4_4 (.pair (.sl 96 (arrT 5 (.int .i64))) (.pair .bool (.pair .bool (.pair .bool (.pair (.sl 94 Y4_1) (.pair (.pair (.pair (.sl 3 (.int .i64)) (.sl 4 .bool)) (.sl 124 Y4_7)) (.pair (.sl 3 (.int .i64)) (.sl 4 .bool))))))))))
abbrev Y4_9 : Type := Int × Int × Unit × Unit × Bool × Bool × Bool × Unit × Unit × Unit × Unit × Unit × Unit × Unit
abbrev Y4_10 : Type := Int × Int × (List Y4_2) × (List (PN Int 5)) × Bool × Bool × Bool × (List Y4_0) × (((List Int) × List Bool) × List Y4_3) × (List Int) × List Bool
abbrev Y4_11 : Type := (Int × Bool × Unit) × Unit
abbrev Y4_12 : Ty := .pair (.int .i64) (.int .i64)
abbrev Y4_13 : Type := List (Int × Int)
abbrev Y4_14 : Type := Int × (PN Int 8) × (List (Int × Int × Int)) × Bool
abbrev Y4_15 : Type := List (Int × Int)
noncomputable abbrev P38 : List PT := [.val ⟨false, Y4_4, false⟩, .val ⟨false, (.int .i64), false⟩]
noncomputable abbrev R38 : List RT := [.val ⟨false, (.int .i64), true⟩]
noncomputable def S38 (k : Nat) (l_ : List Y4_2) (s : Int) : Option ((Int × Unit) × Unit) :=
 (S86 k l_ s).bind fun q0 =>
 (bif decide (q0.1.1 < 0) then
  some ((8, ()), ())
 else
  some ((q0.1.1, ()), ()))
noncomputable def E38 : Env := tab.env (lk [(86, F86)]) (hintL [])
theorem E38_ok : EnvOK Tryz.prog E38 := envOK_of tabOK _ _ (allFn_lk (l := [(86, F86)]) ⟨ok86, trivial⟩)
noncomputable def B38 (k : Nat) : Tbl (RD R38 × MD P38) := .nil
noncomputable def F38 : Fn := ⟨P38, R38, fun k x => S38 k x.1 x.2.1⟩
theorem ok38 : FnOK Tryz.prog 38 F38 := evalF_ok (E := E38) (T := B38) E38_ok mix Tryz.func38 rfl (by kernel_rfl) (by kernel_rfl) (fun k => by kernel_rfl) (fun k x => by kernel_rfl)
noncomputable abbrev P39 : List PT := [.mbox 37 [.cell (.int .i64), .cell (.int .i64), .cell Y4_4, .own 96 (arrT 5 (.int .i64)), .cell .bool, .cell .bool, .cell .bool, .own 94 Y4_1, .own 3 (.int .i64), .own 4 .bool, .own 124 Y4_7, .own 3 (.int .i64), .own 4 .bool], .val ⟨false, (.sl 114 Y4_12), false⟩]
noncomputable abbrev R39 : List RT := []
noncomputable abbrev c39_L1 : Cut := ⟨[0, 1, 11, 12, 13], [.pin false 0, .cell (.sl 114 Y4_12), .own 3 (.int .i64), .cell (.int .i64), .cell (.int .i64)], [.mbox 37 [.cell (.int .i64), .cell (.int .i64), .cell Y4_4, .own 96 (arrT 5 (.int .i64)), .cell .bool, .cell .bool, .cell .bool, .own 94 Y4_1, .own 3 (.int .i64), .own 4 .bool, .own 124 Y4_7, .own 3 (.int .i64), .own 4 .bool]], 55, []⟩
noncomputable def l39_1 (k : Nat) (g1 : Int → Int → (List Y4_2) → (List (PN Int 5)) → Bool → Bool → Bool → (List Y4_0) → (List Int) → (List Bool) → (List Y4_3) → (List Int) → (List Bool) → Y4_13 → (List Int) → Int → Int → Option ((Unit) × Y4_6 × Unit)) (k_13 : Int) (k_14 : Int) (k_15 : List Y4_2) (k_16 : List (PN Int 5)) (k_17 : Bool) (k_18 : Bool) (k_19 : Bool) (k_20 : List Y4_0) (k_21 : List Int) (k_22 : List Bool) (k_23 : List Y4_3) (k_24 : List Int) (k_25 : List Bool) (l_1 : Y4_15) (t11 : List Int) (t12 : Int) (t13 : Int) : Option ((Unit) × Y4_6 × Unit) :=
 (bif decide (t13 < t12) then
  ix t11 t13 <|
  ix k_23 (rd t11 t13 0) <|
  (bif decide (t13 < (l_1.length : Int)) then
   ix l_1 t13 <|
   (bif !(beqD Y4_12 (rd k_23 (rd t11 t13 0) (0, (0, 0), (0, 0), ([], []), (0, []), 0)).2.2.1 (rd l_1 t13 (0, 0))) then
    ix l_1 t13 <|
    (S82 k ((k_21, k_22), k_23) (rd t11 t13 0) ((rd k_23 (rd t11 t13 0) (0, (0, 0), (0, 0), ([], []), (0, []), 0)).1, (rd k_23 (rd t11 t13 0) (0, (0, 0), (0, 0), ([], []), (0, []), 0)).2.1, rd l_1 t13 (0, 0), (rd k_23 (rd t11 t13 0) (0, (0, 0), (0, 0), ([], []), (0, []), 0)).2.2.2)).bind fun q1 =>
    g1 k_13 k_14 k_15 k_16 k_17 k_18 k_19 k_20 q1.1.1.1.1 q1.1.1.1.2 q1.1.1.2 k_24 k_25 l_1 t11 t12 (IntKind.i64.wrap (t13 + 1))
   else
    g1 k_13 k_14 k_15 k_16 k_17 k_18 k_19 k_20 k_21 k_22 k_23 k_24 k_25 l_1 t11 t12 (IntKind.i64.wrap (t13 + 1)))
  else
   g1 k_13 k_14 k_15 k_16 k_17 k_18 k_19 k_20 k_21 k_22 k_23 k_24 k_25 l_1 t11 t12 (IntKind.i64.wrap (t13 + 1)))
 else
  some ((), (k_13, k_14, k_15, k_16, k_17, k_18, k_19, k_20, k_21, k_22, k_23, k_24, k_25, ()), ()))
noncomputable def b39_1 (k : Nat) (g : ((Y4_6 × Unit) × Unit × Y4_13 × (List Int) × Int × Int × Unit) → Option ((Unit) × Y4_6 × Unit)) (d : (Y4_6 × Unit) × Unit × Y4_13 × (List Int) × Int × Int × Unit) : Option ((Unit) × Y4_6 × Unit) := l39_1 k (fun k_13 k_14 k_15 k_16 k_17 k_18 k_19 k_20 k_21 k_22 k_23 k_24 k_25 l_1 t11 t12 t13 => g (((k_13, k_14, k_15, k_16, k_17, k_18, k_19, k_20, k_21, k_22, k_23, k_24, k_25, ()), ()), (), l_1, t11, t12, t13, ())) d.1.1.1 d.1.1.2.1 d.1.1.2.2.1 d.1.1.2.2.2.1 d.1.1.2.2.2.2.1 d.1.1.2.2.2.2.2.1 d.1.1.2.2.2.2.2.2.1 d.1.1.2.2.2.2.2.2.2.1 d.1.1.2.2.2.2.2.2.2.2.1 d.1.1.2.2.2.2.2.2.2.2.2.1 d.1.1.2.2.2.2.2.2.2.2.2.2.1 d.1.1.2.2.2.2.2.2.2.2.2.2.2.1 d.1.1.2.2.2.2.2.2.2.2.2.2.2.2.1 d.2.2.1 d.2.2.2.1 d.2.2.2.2.1 d.2.2.2.2.2.1
noncomputable def L39_1 (k : Nat) (j : Nat) (k_13 : Int) (k_14 : Int) (k_15 : List Y4_2) (k_16 : List (PN Int 5)) (k_17 : Bool) (k_18 : Bool) (k_19 : Bool) (k_20 : List Y4_0) (k_21 : List Int) (k_22 : List Bool) (k_23 : List Y4_3) (k_24 : List Int) (k_25 : List Bool) (l_1 : Y4_15) (t11 : List Int) (t12 : Int) (t13 : Int) : Option ((Unit) × Y4_6 × Unit) := iter (R := (Unit) × Y4_6 × Unit) c39_L1 (b39_1 k) j (((k_13, k_14, k_15, k_16, k_17, k_18, k_19, k_20, k_21, k_22, k_23, k_24, k_25, ()), ()), (), l_1, t11, t12, t13, ())
theorem L39_1_s (k : Nat) (j : Nat) (k_13 : Int) (k_14 : Int) (k_15 : List Y4_2) (k_16 : List (PN Int 5)) (k_17 : Bool) (k_18 : Bool) (k_19 : Bool) (k_20 : List Y4_0) (k_21 : List Int) (k_22 : List Bool) (k_23 : List Y4_3) (k_24 : List Int) (k_25 : List Bool) (l_1 : Y4_15) (t11 : List Int) (t12 : Int) (t13 : Int) : L39_1 k (j + 1) k_13 k_14 k_15 k_16 k_17 k_18 k_19 k_20 k_21 k_22 k_23 k_24 k_25 l_1 t11 t12 t13 = l39_1 k (L39_1 k j) k_13 k_14 k_15 k_16 k_17 k_18 k_19 k_20 k_21 k_22 k_23 k_24 k_25 l_1 t11 t12 t13 := iter_succ _ _ _ _
noncomputable def S39 (k : Nat) (k_ : Int) (k_1 : Int) (k_2 : List Y4_2) (k_3 : List (PN Int 5)) (k_4 : Bool) (k_5 : Bool) (k_6 : Bool) (k_7 : List Y4_0) (k_8 : List Int) (k_9 : List Bool) (k_10 : List Y4_3) (k_11 : List Int) (k_12 : List Bool) (l_ : Y4_15) : Option ((Unit) × Y4_6 × Unit) :=
 (S73 k ((k_8, k_9), k_10)).bind fun q0 =>
 L39_1 k k k_ k_1 k_2 k_3 k_4 k_5 k_6 k_7 k_8 k_9 k_10 k_11 k_12 l_ q0.1.1 (q0.1.1.length : Int) 0
noncomputable def E39 : Env := tab.env (lk [(73, F73), (82, F82)]) (hintL [])
theorem E39_ok : EnvOK Tryz.prog E39 := envOK_of tabOK _ _ (allFn_lk (l := [(73, F73), (82, F82)]) ⟨ok73, ok82, trivial⟩)
noncomputable def B39 (k : Nat) : Tbl (RD R39 × MD P39) := (.loop 1 c39_L1 (b39_1 k) (fun g => .nil) .nil)
noncomputable def F39 : Fn := ⟨P39, R39, fun k x => S39 k x.1.1 x.1.2.1 x.1.2.2.1 x.1.2.2.2.1 x.1.2.2.2.2.1 x.1.2.2.2.2.2.1 x.1.2.2.2.2.2.2.1 x.1.2.2.2.2.2.2.2.1 x.1.2.2.2.2.2.2.2.2.1 x.1.2.2.2.2.2.2.2.2.2.1 x.1.2.2.2.2.2.2.2.2.2.2.1 x.1.2.2.2.2.2.2.2.2.2.2.2.1 x.1.2.2.2.2.2.2.2.2.2.2.2.2.1 x.2.1⟩
theorem ok39 : FnOK Tryz.prog 39 F39 := evalF_ok (E := E39) (T := B39) E39_ok mix Tryz.func39 rfl (by kernel_rfl) (by kernel_rfl) (fun k => by kernel_rfl) (fun k x => by kernel_rfl)
noncomputable abbrev P12 : List PT := [.val ⟨true, Y4_8, false⟩]
noncomputable abbrev R12 : List RT := [.val ⟨true, Y4_8, false⟩, .val ⟨false, (.int .i64), true⟩]
noncomputable abbrev c12_L12 : Cut := ⟨[1, 2, 4, 33, 34], [.box 37 [.cell (.int .i64), .cell (.int .i64), .cell Y4_4, .own 96 (arrT 5 (.int .i64)), .cell .bool, .cell .bool, .cell .bool, .own 94 Y4_1, .own 3 (.int .i64), .own 4 .bool, .own 124 Y4_7, .own 3 (.int .i64), .own 4 .bool], .box 37 [.cell (.int .i64), .cell (.int .i64), .nil, .nil, .cell .bool, .cell .bool, .cell .bool, .nil, .nil, .nil, .nil, .nil, .nil], .box 98 [.own 114 Y4_12], .cell (.int .i64), .cell (.int .i64)], [], 50, []⟩
noncomputable def l12_12 (k : Nat) (g12 : Int → Int → (List Y4_2) → (List (PN Int 5)) → Bool → Bool → Bool → (List Y4_0) → (List Int) → (List Bool) → (List Y4_3) → (List Int) → (List Bool) → Int → Int → Bool → Bool → Bool → Y4_13 → Int → Int → Option (Y4_5 × Unit)) (k_14 : Int) (k_15 : Int) (k_16 : List Y4_2) (k_17 : List (PN Int 5)) (k_18 : Bool) (k_19 : Bool) (k_20 : Bool) (k_21 : List Y4_0) (k_22 : List Int) (k_23 : List Bool) (k_24 : List Y4_3) (k_25 : List Int) (k_26 : List Bool) (t2_5 : Int) (t2_6 : Int) (t2_7 : Bool) (t2_8 : Bool) (t2_9 : Bool) (l_1 : Y4_15) (t33 : Int) (t34 : Int) : Option (Y4_5 × Unit) :=
 (bif decide (t34 < t33) then
  (S38 k k_16 t34).bind fun q4 =>
  ix l_1 t34 <|
  g12 k_14 k_15 k_16 k_17 k_18 k_19 k_20 k_21 k_22 k_23 k_24 k_25 k_26 t2_5 t2_6 t2_7 t2_8 t2_9 (upd l_1 t34 (q4.1.1, (rd l_1 t34 (0, 0)).2)) t33 (IntKind.i64.wrap (t34 + 1))
 else
  (S39 k k_14 k_15 k_16 k_17 k_18 k_19 k_20 k_21 k_22 k_23 k_24 k_25 k_26 l_1).bind fun q5 =>
  some (((q5.2.1.1, q5.2.1.2.1, q5.2.1.2.2.1, q5.2.1.2.2.2.1, true, q5.2.1.2.2.2.2.2.1, q5.2.1.2.2.2.2.2.2.1, q5.2.1.2.2.2.2.2.2.2.1, ((q5.2.1.2.2.2.2.2.2.2.2.1, q5.2.1.2.2.2.2.2.2.2.2.2.1), q5.2.1.2.2.2.2.2.2.2.2.2.2.1), q5.2.1.2.2.2.2.2.2.2.2.2.2.2.1, q5.2.1.2.2.2.2.2.2.2.2.2.2.2.2.1), 0, ()), ()))
noncomputable def b12_12 (k : Nat) (g : ((Unit) × Y4_6 × Y4_9 × (Y4_13 × Unit) × Int × Int × Unit) → Option (Y4_5 × Unit)) (d : (Unit) × Y4_6 × Y4_9 × (Y4_13 × Unit) × Int × Int × Unit) : Option (Y4_5 × Unit) := l12_12 k (fun k_14 k_15 k_16 k_17 k_18 k_19 k_20 k_21 k_22 k_23 k_24 k_25 k_26 t2_5 t2_6 t2_7 t2_8 t2_9 l_1 t33 t34 => g ((), (k_14, k_15, k_16, k_17, k_18, k_19, k_20, k_21, k_22, k_23, k_24, k_25, k_26, ()), (t2_5, t2_6, (), (), t2_7, t2_8, t2_9, (), (), (), (), (), (), ()), (l_1, ()), t33, t34, ())) d.2.1.1 d.2.1.2.1 d.2.1.2.2.1 d.2.1.2.2.2.1 d.2.1.2.2.2.2.1 d.2.1.2.2.2.2.2.1 d.2.1.2.2.2.2.2.2.1 d.2.1.2.2.2.2.2.2.2.1 d.2.1.2.2.2.2.2.2.2.2.1 d.2.1.2.2.2.2.2.2.2.2.2.1 d.2.1.2.2.2.2.2.2.2.2.2.2.1 d.2.1.2.2.2.2.2.2.2.2.2.2.2.1 d.2.1.2.2.2.2.2.2.2.2.2.2.2.2.1 d.2.2.1.1 d.2.2.1.2.1 d.2.2.1.2.2.2.2.1 d.2.2.1.2.2.2.2.2.1 d.2.2.1.2.2.2.2.2.2.1 d.2.2.2.1.1 d.2.2.2.2.1 d.2.2.2.2.2.1
noncomputable def L12_12 (k : Nat) (j : Nat) (k_14 : Int) (k_15 : Int) (k_16 : List Y4_2) (k_17 : List (PN Int 5)) (k_18 : Bool) (k_19 : Bool) (k_20 : Bool) (k_21 : List Y4_0) (k_22 : List Int) (k_23 : List Bool) (k_24 : List Y4_3) (k_25 : List Int) (k_26 : List Bool) (t2_5 : Int) (t2_6 : Int) (t2_7 : Bool) (t2_8 : Bool) (t2_9 : Bool) (l_1 : Y4_15) (t33 : Int) (t34 : Int) : Option (Y4_5 × Unit) := iter (R := Y4_5 × Unit) c12_L12 (b12_12 k) j ((), (k_14, k_15, k_16, k_17, k_18, k_19, k_20, k_21, k_22, k_23, k_24, k_25, k_26, ()), (t2_5, t2_6, (), (), t2_7, t2_8, t2_9, (), (), (), (), (), (), ()), (l_1, ()), t33, t34, ())
theorem L12_12_s (k : Nat) (j : Nat) (k_14 : Int) (k_15 : Int) (k_16 : List Y4_2) (k_17 : List (PN Int 5)) (k_18 : Bool) (k_19 : Bool) (k_20 : Bool) (k_21 : List Y4_0) (k_22 : List Int) (k_23 : List Bool) (k_24 : List Y4_3) (k_25 : List Int) (k_26 : List Bool) (t2_5 : Int) (t2_6 : Int) (t2_7 : Bool) (t2_8 : Bool) (t2_9 : Bool) (l_1 : Y4_15) (t33 : Int) (t34 : Int) : L12_12 k (j + 1) k_14 k_15 k_16 k_17 k_18 k_19 k_20 k_21 k_22 k_23 k_24 k_25 k_26 t2_5 t2_6 t2_7 t2_8 t2_9 l_1 t33 t34 = l12_12 k (L12_12 k j) k_14 k_15 k_16 k_17 k_18 k_19 k_20 k_21 k_22 k_23 k_24 k_25 k_26 t2_5 t2_6 t2_7 t2_8 t2_9 l_1 t33 t34 := iter_succ _ _ _ _
noncomputable abbrev c12_L6 : Cut := ⟨[1, 2, 4, 16, 17, 18], [.box 37 [.cell (.int .i64), .cell (.int .i64), .cell Y4_4, .own 96 (arrT 5 (.int .i64)), .cell .bool, .cell .bool, .cell .bool, .own 94 Y4_1, .own 3 (.int .i64), .own 4 .bool, .own 124 Y4_7, .own 3 (.int .i64), .own 4 .bool], .box 37 [.cell (.int .i64), .cell (.int .i64), .nil, .nil, .cell .bool, .cell .bool, .cell .bool, .nil, .nil, .nil, .nil, .nil, .nil], .box 98 [.own 114 Y4_12], .cell Y4_4, .cell (.int .i64), .cell (.int .i64)], [], 50, []⟩
noncomputable def l12_6 (k : Nat) (g6 : Int → Int → (List Y4_2) → (List (PN Int 5)) → Bool → Bool → Bool → (List Y4_0) → (List Int) → (List Bool) → (List Y4_3) → (List Int) → (List Bool) → Int → Int → Bool → Bool → Bool → Y4_13 → (List Y4_2) → Int → Int → Option (Y4_5 × Unit)) (k_1 : Int) (k_2 : Int) (k_3 : List Y4_2) (k_4 : List (PN Int 5)) (k_5 : Bool) (k_6 : Bool) (k_7 : Bool) (k_8 : List Y4_0) (k_9 : List Int) (k_10 : List Bool) (k_11 : List Y4_3) (k_12 : List Int) (k_13 : List Bool) (t2 : Int) (t2_1 : Int) (t2_2 : Bool) (t2_3 : Bool) (t2_4 : Bool) (l_ : Y4_15) (t16 : List Y4_2) (t17 : Int) (t18 : Int) : Option (Y4_5 × Unit) :=
 (bif decide (t18 < t17) then
  ix t16 t18 <|
  (S36 k ([(rd t16 t18 (0, 0, 0, [], [], [])).2.2.2.1, (rd t16 t18 (0, 0, 0, [], [], [])).2.2.2.2.1] : List (List (Int × Int × Int × Int)))).bind fun q2 =>
  (S35 k q2.1.1 l_).bind fun q3 =>
  (bif q3.1.1 then
   some (((k_1, k_2, k_3, k_4, k_5, k_6, k_7, k_8, ((k_9, k_10), k_11), k_12, k_13), 4, ()), ())
  else
   g6 k_1 k_2 k_3 k_4 k_5 k_6 k_7 k_8 k_9 k_10 k_11 k_12 k_13 t2 t2_1 t2_2 t2_3 t2_4 l_ t16 t17 (IntKind.i64.wrap (t18 + 1)))
 else
  L12_12 k k k_1 k_2 k_3 k_4 k_5 k_6 k_7 k_8 k_9 k_10 k_11 k_12 k_13 t2 t2_1 t2_2 t2_3 t2_4 l_ (l_.length : Int) 0)
noncomputable def b12_6 (k : Nat) (g : ((Unit) × Y4_6 × Y4_9 × (Y4_13 × Unit) × (List Y4_2) × Int × Int × Unit) → Option (Y4_5 × Unit)) (d : (Unit) × Y4_6 × Y4_9 × (Y4_13 × Unit) × (List Y4_2) × Int × Int × Unit) : Option (Y4_5 × Unit) := l12_6 k (fun k_1 k_2 k_3 k_4 k_5 k_6 k_7 k_8 k_9 k_10 k_11 k_12 k_13 t2 t2_1 t2_2 t2_3 t2_4 l_ t16 t17 t18 => g ((), (k_1, k_2, k_3, k_4, k_5, k_6, k_7, k_8, k_9, k_10, k_11, k_12, k_13, ()), (t2, t2_1, (), (), t2_2, t2_3, t2_4, (), (), (), (), (), (), ()), (l_, ()), t16, t17, t18, ())) d.2.1.1 d.2.1.2.1 d.2.1.2.2.1 d.2.1.2.2.2.1 d.2.1.2.2.2.2.1 d.2.1.2.2.2.2.2.1 d.2.1.2.2.2.2.2.2.1 d.2.1.2.2.2.2.2.2.2.1 d.2.1.2.2.2.2.2.2.2.2.1 d.2.1.2.2.2.2.2.2.2.2.2.1 d.2.1.2.2.2.2.2.2.2.2.2.2.1 d.2.1.2.2.2.2.2.2.2.2.2.2.2.1 d.2.1.2.2.2.2.2.2.2.2.2.2.2.2.1 d.2.2.1.1 d.2.2.1.2.1 d.2.2.1.2.2.2.2.1 d.2.2.1.2.2.2.2.2.1 d.2.2.1.2.2.2.2.2.2.1 d.2.2.2.1.1 d.2.2.2.2.1 d.2.2.2.2.2.1 d.2.2.2.2.2.2.1
noncomputable def L12_6 (k : Nat) (j : Nat) (k_1 : Int) (k_2 : Int) (k_3 : List Y4_2) (k_4 : List (PN Int 5)) (k_5 : Bool) (k_6 : Bool) (k_7 : Bool) (k_8 : List Y4_0) (k_9 : List Int) (k_10 : List Bool) (k_11 : List Y4_3) (k_12 : List Int) (k_13 : List Bool) (t2 : Int) (t2_1 : Int) (t2_2 : Bool) (t2_3 : Bool) (t2_4 : Bool) (l_ : Y4_15) (t16 : List Y4_2) (t17 : Int) (t18 : Int) : Option (Y4_5 × Unit) := iter (R := Y4_5 × Unit) c12_L6 (b12_6 k) j ((), (k_1, k_2, k_3, k_4, k_5, k_6, k_7, k_8, k_9, k_10, k_11, k_12, k_13, ()), (t2, t2_1, (), (), t2_2, t2_3, t2_4, (), (), (), (), (), (), ()), (l_, ()), t16, t17, t18, ())
theorem L12_6_s (k : Nat) (j : Nat) (k_1 : Int) (k_2 : Int) (k_3 : List Y4_2) (k_4 : List (PN Int 5)) (k_5 : Bool) (k_6 : Bool) (k_7 : Bool) (k_8 : List Y4_0) (k_9 : List Int) (k_10 : List Bool) (k_11 : List Y4_3) (k_12 : List Int) (k_13 : List Bool) (t2 : Int) (t2_1 : Int) (t2_2 : Bool) (t2_3 : Bool) (t2_4 : Bool) (l_ : Y4_15) (t16 : List Y4_2) (t17 : Int) (t18 : Int) : L12_6 k (j + 1) k_1 k_2 k_3 k_4 k_5 k_6 k_7 k_8 k_9 k_10 k_11 k_12 k_13 t2 t2_1 t2_2 t2_3 t2_4 l_ t16 t17 t18 = l12_6 k (L12_6 k j) k_1 k_2 k_3 k_4 k_5 k_6 k_7 k_8 k_9 k_10 k_11 k_12 k_13 t2 t2_1 t2_2 t2_3 t2_4 l_ t16 t17 t18 := iter_succ _ _ _ _
noncomputable def S12 (k : Nat) (k_ : Y4_10) : Option (Y4_5 × Unit) :=
 (S34 k k_).bind fun q0 =>
 (bif q0.1.1.2.2.2.2.1 then
  some ((q0.1.1, 7, ()), ())
 else
  (S30 k q0.1.1).bind fun q1 =>
  L12_6 k k q0.1.1.1 q0.1.1.2.1 q0.1.1.2.2.1 q0.1.1.2.2.2.1 q0.1.1.2.2.2.2.1 q0.1.1.2.2.2.2.2.1 q0.1.1.2.2.2.2.2.2.1 q0.1.1.2.2.2.2.2.2.2.1 q0.1.1.2.2.2.2.2.2.2.2.1.1.1 q0.1.1.2.2.2.2.2.2.2.2.1.1.2 q0.1.1.2.2.2.2.2.2.2.2.1.2 q0.1.1.2.2.2.2.2.2.2.2.2.1 q0.1.1.2.2.2.2.2.2.2.2.2.2 0 0 false false false q1.1.1 q0.1.1.2.2.1 (q0.1.1.2.2.1.length : Int) 0)
noncomputable def E12 : Env := tab.env (lk [(30, F30), (34, F34), (35, F35), (36, F36), (38, F38), (39, F39)]) (hintL [])
theorem E12_ok : EnvOK Tryz.prog E12 := envOK_of tabOK _ _ (allFn_lk (l := [(30, F30), (34, F34), (35, F35), (36, F36), (38, F38), (39, F39)]) ⟨ok30, ok34, ok35, ok36, ok38, ok39, trivial⟩)
noncomputable def B12 (k : Nat) : Tbl (RD R12 × MD P12) := (.loop 12 c12_L12 (b12_12 k) (fun g => .nil) (.loop 6 c12_L6 (b12_6 k) (fun g => .nil) .nil))
noncomputable def F12 : Fn := ⟨P12, R12, fun k x => S12 k x.1⟩
theorem ok12 : FnOK Tryz.prog 12 F12 := evalF_ok (E := E12) (T := B12) E12_ok mix Tryz.func12 rfl (by kernel_rfl) (by kernel_rfl) (fun k => by kernel_rfl) (fun k x => by kernel_rfl)
noncomputable abbrev P96 : List PT := [.val ⟨true, Y4_1, false⟩, .val ⟨false, (.int .i64), false⟩]
noncomputable abbrev R96 : List RT := [.val ⟨false, (.int .i64), true⟩]
noncomputable def S96 (k : Nat) (j_ : Int × Int × Int × Int × Y4_14 × Y4_14 × (List Int) × Bool) (place : Int) : Option ((Int × Unit) × Unit) :=
 some ((IntKind.i64.wrap (j_.1 - place), ()), ())
noncomputable def E96 : Env := tab.env (lk []) (hintL [])
theorem E96_ok : EnvOK Tryz.prog E96 := envOK_of tabOK _ _ (fun f F h => by cases h)
noncomputable def B96 (k : Nat) : Tbl (RD R96 × MD P96) := .nil
noncomputable def F96 : Fn := ⟨P96, R96, fun k x => S96 k x.1 x.2.1⟩
theorem ok96 : FnOK Tryz.prog 96 F96 := evalF_ok (E := E96) (T := B96) E96_ok mix Tryz.func96 rfl (by kernel_rfl) (by kernel_rfl) (fun k => by kernel_rfl) (fun k x => by kernel_rfl)
noncomputable abbrev P95 : List PT := [.val ⟨false, (.sl 94 Y4_1), false⟩, .val ⟨false, (.int .i64), false⟩, .pv (.clo 96 [])]
noncomputable abbrev R95 : List RT := [.val ⟨false, (.int .i64), true⟩, .val ⟨false, .bool, true⟩]
noncomputable abbrev c95_L3 : Cut := ⟨[0, 1, 2, 8, 9, 10], [.cell (.sl 94 Y4_1), .cell (.int .i64), .clo 96 [], .cell (.int .i64), .cell (.int .i64), .cell (.int .i64)], [], 49, []⟩
noncomputable def l95_3 (k : Nat) (g3 : (List Y4_0) → Int → Int → Int → Int → Option Y4_11) (x1 : List Y4_0) (target1 : Int) (n : Int) (i : Int) (j_ : Int) : Option Y4_11 :=
 (bif decide (i < j_) then
  ix x1 (IntKind.i64.wrap (ishr .u64 (IntKind.u64.wrap (IntKind.i64.wrap (i + j_))) 1)) <|
  (S96 k (rd x1 (IntKind.i64.wrap (ishr .u64 (IntKind.u64.wrap (IntKind.i64.wrap (i + j_))) 1)) (0, 0, 0, 0, (0, prep (α := Int) 8 0, [], false), (0, prep (α := Int) 8 0, [], false), [], false)) target1).bind fun q0 =>
  (bif decide (q0.1.1 < 0) then
   g3 x1 target1 n (IntKind.i64.wrap ((IntKind.i64.wrap (ishr .u64 (IntKind.u64.wrap (IntKind.i64.wrap (i + j_))) 1)) + 1)) j_
  else
   g3 x1 target1 n i (IntKind.i64.wrap (ishr .u64 (IntKind.u64.wrap (IntKind.i64.wrap (i + j_))) 1)))
 else
  (bif decide (i < n) then
   ix x1 i <|
   (S96 k (rd x1 i (0, 0, 0, 0, (0, prep (α := Int) 8 0, [], false), (0, prep (α := Int) 8 0, [], false), [], false)) target1).bind fun q1 =>
   some ((i, q1.1.1 == 0, ()), ())
  else
   some ((i, false, ()), ())))
noncomputable def b95_3 (k : Nat) (g : ((Unit) × (List Y4_0) × Int × Unit × Int × Int × Int × Unit) → Option Y4_11) (d : (Unit) × (List Y4_0) × Int × Unit × Int × Int × Int × Unit) : Option Y4_11 := l95_3 k (fun x1 target1 n i j_ => g ((), x1, target1, (), n, i, j_, ())) d.2.1 d.2.2.1 d.2.2.2.2.1 d.2.2.2.2.2.1 d.2.2.2.2.2.2.1
noncomputable def L95_3 (k : Nat) (j : Nat) (x1 : List Y4_0) (target1 : Int) (n : Int) (i : Int) (j_ : Int) : Option Y4_11 := iter (R := (Int × Bool × Unit) × Unit) c95_L3 (b95_3 k) j ((), x1, target1, (), n, i, j_, ())
theorem L95_3_s (k : Nat) (j : Nat) (x1 : List Y4_0) (target1 : Int) (n : Int) (i : Int) (j_ : Int) : L95_3 k (j + 1) x1 target1 n i j_ = l95_3 k (L95_3 k j) x1 target1 n i j_ := iter_succ _ _ _ _
noncomputable def S95 (k : Nat) (x : List Y4_0) (target : Int) : Option Y4_11 :=
 L95_3 k k x target (x.length : Int) 0 (x.length : Int)
noncomputable def E95 : Env := tab.env (lk [(96, F96)]) (hintL [])
theorem E95_ok : EnvOK Tryz.prog E95 := envOK_of tabOK _ _ (allFn_lk (l := [(96, F96)]) ⟨ok96, trivial⟩)
noncomputable def B95 (k : Nat) : Tbl (RD R95 × MD P95) := (.loop 3 c95_L3 (b95_3 k) (fun g => .nil) .nil)
noncomputable def F95 : Fn := ⟨P95, R95, fun k x => S95 k x.1 x.2.1⟩
theorem ok95 : FnOK Tryz.prog 95 F95 := evalF_ok (E := E95) (T := B95) E95_ok mix Tryz.func95 rfl (by kernel_rfl) (by kernel_rfl) (fun k => by kernel_rfl) (fun k x => by kernel_rfl)
noncomputable abbrev P49 : List PT := [.pv (.ref Y4_8), .val ⟨false, (.int .i64), false⟩]
noncomputable abbrev R49 : List RT := [.val ⟨false, (.int .i64), true⟩, .val ⟨false, .bool, true⟩]
noncomputable def S49 (k : Nat) (k_ : Y4_10) (place : Int) : Option Y4_11 :=
 (S95 k k_.2.2.2.2.2.2.2.1 place).bind fun q0 =>
 some ((q0.1.1, q0.1.2.1, ()), ())
noncomputable def E49 : Env := tab.env (lk [(95, F95)]) (hintL [])
theorem E49_ok : EnvOK Tryz.prog E49 := envOK_of tabOK _ _ (allFn_lk (l := [(95, F95)]) ⟨ok95, trivial⟩)
noncomputable def B49 (k : Nat) : Tbl (RD R49 × MD P49) := .nil
noncomputable def F49 : Fn := ⟨P49, R49, fun k x => S49 k x.1 x.2.1⟩
theorem ok49 : FnOK Tryz.prog 49 F49 := evalF_ok (E := E49) (T := B49) E49_ok mix Tryz.func49 rfl (by kernel_rfl) (by kernel_rfl) (fun k => by kernel_rfl) (fun k x => by kernel_rfl)
section
variable (w : World) {g n c i j : Nat}
theorem delF50_t : Tryz.prog.underlying 26 = some (.slice 94) ∧ Tryz.prog.underlying 3 = some (.int .i64) ∧ Tryz.prog.underlying 4 = some .bool ∧ Tryz.prog.follows .mixedOrders = true ∧ (∀ w, (Go.sizeOf 94).run Tryz.prog w = .ok 28 w) ∧ Tryz.f50.ntmps = 33 := ⟨by kernel_rfl, by kernel_rfl, by kernel_rfl, by kernel_rfl, fun w => by kernel_rfl, rfl⟩
theorem delF50_none {v : Value} (hv : (∃ A n c, v = .slice A n c ∧ i ≤ n ∧ n ≤ c ∧ c ≤ 9223372036854775807)) : Calls Tryz.prog 50 #[v, .int .i64 i, .int .i64 i] w fun e w' => e = .returned v ∧ w' = w := by
 obtain ⟨t24, t3, t4, mixed, z36, hnt⟩ := delF50_t
 have u24 := run_underlying t24; have u3 := run_underlying t3; have u4 := run_underlying t4
 obtain ⟨A, n, c, rfl, hi, hnc, hc63⟩ := hv
 have hi0 : (i : Int) ≤ (n : Int) := by omega
 have hi1 : (0 : Int) ≤ (i : Int) := by omega
 cases A <;> (go_enter Tryz.func50, hnt; go_wp2 <;> (go_ret; exact ⟨rfl, rfl⟩))
theorem delF50_some {w' w'' : World} (hlt : i < j) (hj : j ≤ n) (hnc : n ≤ c) (hc63 : c ≤ 9223372036854775807)
  (hap : ∀ ty A, (c ≠ j → A = (⟨g, j * 28, none⟩ : Addr)) → (Builtin.append_ #[26, 26] ty #[.slice (some ⟨g, 0, none⟩) i c, .slice (some A) (n - j) (c - j)]).run Tryz.prog w.drew = .ok (.slice (some ⟨g, 0, none⟩) (i + (n - j)) c) w')
  (hcl : ∀ ty dc, (Builtin.clear_ #[26] ty #[.slice (some ⟨g, (i + (n - j)) * 28, none⟩) (n - (i + (n - j))) dc]).run Tryz.prog w' = .ok (.tuple #[]) w'') :
  Calls Tryz.prog 50 #[.slice (some ⟨g, 0, none⟩) n c, .int .i64 i, .int .i64 j] w fun e w1 => e = .returned (.slice (some ⟨g, 0, none⟩) (i + (n - j)) c) ∧ w1 = w'' := by
 obtain ⟨t24, t3, t4, mixed, z36, hnt⟩ := delF50_t
 have u24 := run_underlying t24; have u3 := run_underlying t3; have u4 := run_underlying t4
 have hi0 : (i : Int) ≤ (n : Int) := by omega
 have hj0 : (j : Int) ≤ (n : Int) := by omega
 have hij : (i : Int) ≤ (j : Int) := by omega
 have hne : ¬ ((i : Int) = (j : Int)) := by omega
 have hic : i ≤ c := by omega
 have hjc : j ≤ c := by omega
 have hln : i + (n - j) ≤ n := by omega
 have hlc : i + (n - j) ≤ c := by omega
 have hci : ¬ (c = i + (n - j)) := by omega
 obtain ⟨A, hA, hA'⟩ : ∃ A : Addr, (if c = j then some (⟨g, 0, none⟩ : Addr) else some ⟨g, j * 28, none⟩) = some A ∧ (c ≠ j → A = (⟨g, j * 28, none⟩ : Addr)) := by
  by_cases h : c = j
  · exact ⟨_, if_pos h, fun q => absurd h q⟩
  · exact ⟨_, if_neg h, fun _ => rfl⟩
 try simp only [Nat.mul_one] at hA hcl
 go_enter Tryz.func50, hnt
 go_wp2_with fail
 go_region_law_o (refine append_step rfl rfl _ _ (by simp [Act.eval, Act.put]) (by simp [Act.eval, Act.put, hA]) (hap _ _ hA') ?_)
 go_wp2_with (at_builtin; refine clear_list rfl rfl _ rfl (hcl _ _) ?_)
 go_ret
 exact ⟨rfl, rfl⟩
end
noncomputable abbrev P50 : List PT := delPs 94 Y4_1
noncomputable abbrev R50 : List RT := delRs 94 Y4_1
noncomputable def S50 (k : Nat) (xs : List Y4_0) (i j : Int) : Option (((List Y4_0) × Unit) × Unit) := delSem 94 Y4_1 k (xs, i, j, ())
noncomputable def F50 : Fn := ⟨P50, R50, delSem 94 Y4_1⟩
noncomputable def E50 : Env := tab.env (fun _ => none) (fun _ => 0)
theorem E50_ok : EnvOK Tryz.prog E50 := envOK_of tabOK _ _ (fun f F h => by cases h)
theorem ok50 : FnOK Tryz.prog 50 F50 := by
 obtain ⟨i0, z, a1, a2, a3, a4, a5⟩ := (E50_ok.ty 94 (Y4_1) (by kernel_rfl)).info
 have b2 : Ty.sz (Y4_1) = 28 := rfl
 have hz : z.cells.size = 28 := by rw [← Array.length_toList, a5, zeroV_len, b2]
 obtain ⟨t24, t3, t4, mixed, z36, hnt⟩ := delF50_t
 refine del_ok Tryz.func50 rfl (by kernel_rfl) ?_
 rw [b2]
 exact del_all (S := 26) (z := z) t24 a1 a4 (by rw [a2, b2]) hz (fun v hv => zeroV_one (Y4_1) v (by rw [← a5]; exact hv)) (by decide) (fun w i v h => delF50_none w h) (fun w g n c i j w' w'' h1 h2 h3 h4 h5 h6 => delF50_some w h1 h2 h3 h4 h5 h6)
noncomputable abbrev P99 : List PT := [.val ⟨false, (.int .i64), false⟩]
noncomputable abbrev R99 : List RT := [.val ⟨true, (.pair (.int .i64) (.pair (arrT 8 (.int .i64)) (.pair (.sl 233 (.pair (.int .i64) Y4_12)) .bool))), true⟩]
noncomputable def S99 (k : Nat) (in_ : Int) : Option ((Y4_14 × Unit) × Unit) :=
 some (((0, (in_, 0, 0, 0, 0, 0, 0, 0), [], false), ()), ())
noncomputable def E99 : Env := tab.env (lk []) (hintL [])
theorem E99_ok : EnvOK Tryz.prog E99 := envOK_of tabOK _ _ (fun f F h => by cases h)
noncomputable def B99 (k : Nat) : Tbl (RD R99 × MD P99) := .nil
noncomputable def F99 : Fn := ⟨P99, R99, fun k x => S99 k x.1⟩
theorem ok99 : FnOK Tryz.prog 99 F99 := evalF_ok (E := E99) (T := B99) E99_ok mix Tryz.func99 rfl (by kernel_rfl) (by kernel_rfl) (fun k => by kernel_rfl) (fun k x => by kernel_rfl)
end Go.Proofs.YtmmagcjlfcicfaaGreat.Ab
