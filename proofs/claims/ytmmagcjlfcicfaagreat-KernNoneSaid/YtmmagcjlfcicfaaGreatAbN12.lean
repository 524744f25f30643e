import Derived.Test.YtmmagcjlfcicfaaGreatAbN11
/- Contracts, printed by this session's own program gen.py. -/
set_option linter.unusedVariables false
set_option linter.unusedSimpArgs false
set_option maxRecDepth 100000
namespace Go.Proofs.YtmmagcjlfcicfaaGreat.Ab
open Go.RowKit
abbrev Y12_0 : Ty := .pair (.int .i64) (.pair (.int .i64) (.pair (.int .i64) (.pair (.int .i64) (.pair (.pair (.int .i64) (.pair (arrT 8 (.int .i64)) (.pair (.sl 233 (.pair (.int .i64) (.pair (.int .i64) (.int .i64)))) .bool))) (.pair (.pair (.int .i64) (.pair (arrT 8 (.int .i64)) (.pair (.sl 233 (.pair (.int .i64) (.pair (.int .i64) (.int .i64)))) .bool))) (.pair (.sl 3 (.int .i64)) .bool))))))
abbrev Y12_1 : Type := Int × Int × Int × Int × (Int × (PN Int 8) × (List (Int × Int × Int)) × Bool) × (Int × (PN Int 8) × (List (Int × Int × Int)) × Bool) × (List Int) × Bool
abbrev Y12_2 : Ty := .pair (.int .i64) (.pair (.int .i64) (.pair (.int .i64) (.pair (.sl 87 (.pair (.int .i64) (.pair (.int .i64) (.pair (.int .i64) (.int .i64))))) (.pair (.sl 87 (.pair (.int .i64) (.pair (.int .i64) (.pair (.int .i64) (.int .i64))))) (.sl 87 (.pair (.int .i64) (.pair (.int .i64) (.pair (.int .i64) (.int .i64)))))))))
abbrev Y12_3 : Type := Int × Int × Int × (List (Int × Int × Int × Int)) × (List (Int × Int × Int × Int)) × List (Int × Int × Int × Int)
abbrev Y12_4 : Ty := .pair (.int .i64) (.pair (.pair (.int .i64) (.int .i64)) (.pair (.pair (.int .i64) (.int .i64)) (.pair (.pair (.sl 2 (.int .i64)) (.sl 3 (.int .i64))) (.pair (.pair (.int .u32) (.sl 297 (.pair (.int .i64) (.int .u32)))) (.int .u32)))))
abbrev Y12_5 : Type := (Bool × Unit) × Unit
abbrev Y12_6 : Type := Int × (Int × Int) × (Int × Int) × ((List Int) × List Int) × (Int × List (Int × Int)) × Int
abbrev Y12_7 : Ty := .pair (.int .i64) (.pair (.int .i64) (.int .i64))
abbrev Y12_8 : Type := Int × Int × Int × Int
abbrev Y12_9 : Ty := .sl 3 (.int .i64)
abbrev Y12_10 : Type := (List Int) × (List Bool) × Unit
abbrev Y12_11 : Type := Int × Int × Int × Int × Int × Int × Int × Int × Int × (List (Int × Int × Int)) × Bool × Unit
abbrev Y12_12 : Ty := .pair (.int .i64) (.pair (.int .i64) (.pair (.sl 77 Y12_2) (.pair (.sl 96 (arrT 5 (.int .i64))) (.pair .bool (.pair .bool (.pair .bool (.pair (.sl 94 Y12_0) (.pair (.pair (.pair Y12_9 (.sl 4 .bool)) (.sl 122 Y12_4)) (.pair Y12_9 (.sl 4 .bool))))))))))
abbrev Y12_13 : Type := (List Int) × (List Int) × Unit
abbrev Y12_14 : Ty := .sl 297 (.pair (.int .i64) (.int .u32))
abbrev Y12_15 : Type := Int × Int × Int
abbrev Y12_16 : Type := Int × Int × (List Y12_3) × (List (PN Int 5)) × Bool × Bool × Bool × (List Y12_1) × (((List Int) × List Bool) × List Y12_6) × (List Int) × List Bool
abbrev Y12_17 : Type := (List Int) → (List Bool) → (List Int) → (List Bool) → Int → Option Y12_5
abbrev Y12_18 : Type := Int × Int × Int × Int × (Int × (PN Int 8) × (List Y12_15) × Bool) × (Int × (PN Int 8) × (List Y12_15) × Bool) × (List Int) × Bool
abbrev Y12_19 : Type := (List Int) × (List Bool) × (List Y12_6) × Unit
abbrev Y12_20 : Type := ((Unit) × Y12_10 × Y12_10 × Int × Unit) → Option Y12_5
abbrev Y12_21 : Ty := .pair Y12_9 (.sl 4 .bool)
abbrev Y12_22 : Type := Bool × Unit
noncomputable abbrev P149 : List PT := [.val ⟨false, (.sl 87 (.pair (.int .i64) Y12_7)), false⟩, .val ⟨false, (.sl 87 (.pair (.int .i64) Y12_7)), false⟩]
noncomputable abbrev R149 : List RT := [.val ⟨false, .bool, true⟩]
noncomputable abbrev c149_L4 : Cut := ⟨[0, 1, 5], [.cell (.sl 87 (.pair (.int .i64) Y12_7)), .cell (.sl 87 (.pair (.int .i64) Y12_7)), .cell (.int .i64)], [], 26, []⟩
noncomputable def l149_4 (k : Nat) (g4 : (List Y12_8) → (List Y12_8) → Int → Option Y12_5) (a1 : List Y12_8) (b1 : List Y12_8) (i : Int) : Option Y12_5 :=
 (bif decide (i < (a1.length : Int)) then
  ix a1 i <|
  ix b1 i <|
  (bif !(beqD (.pair (.int .i64) Y12_7) (rd a1 i (0, 0, 0, 0)) (rd b1 i (0, 0, 0, 0))) then
   some ((false, ()), ())
  else
   g4 a1 b1 (IntKind.i64.wrap (i + 1)))
 else
  some ((true, ()), ()))
noncomputable def b149_4 (k : Nat) (g : ((Unit) × (List Y12_8) × (List Y12_8) × Int × Unit) → Option Y12_5) (d : (Unit) × (List Y12_8) × (List Y12_8) × Int × Unit) : Option Y12_5 := l149_4 k (fun a1 b1 i => g ((), a1, b1, i, ())) d.2.1 d.2.2.1 d.2.2.2.1
noncomputable def L149_4 (k : Nat) (j : Nat) (a1 : List Y12_8) (b1 : List Y12_8) (i : Int) : Option Y12_5 := iter (R := Y12_22 × Unit) c149_L4 (b149_4 k) j ((), a1, b1, i, ())
theorem L149_4_s (k : Nat) (j : Nat) (a1 : List Y12_8) (b1 : List Y12_8) (i : Int) : L149_4 k (j + 1) a1 b1 i = l149_4 k (L149_4 k j) a1 b1 i := iter_succ _ _ _ _
noncomputable def S149 (k : Nat) (a : List Y12_8) (b : List Y12_8) : Option Y12_5 :=
 (bif (a.length : Int) != (b.length : Int) then
  some ((false, ()), ())
 else
  L149_4 k k a b 0)
noncomputable def E149 : Env := tab.env (lk []) (hintL [])
theorem E149_ok : EnvOK Tryz.prog E149 := envOK_of tabOK _ _ (fun f F h => by cases h)
noncomputable def B149 (k : Nat) : Tbl (RD R149 × MD P149) := (.loop 4 c149_L4 (b149_4 k) (fun g => .nil) .nil)
noncomputable def F149 : Fn := ⟨P149, R149, fun k x => S149 k x.1 x.2.1⟩
theorem ok149 : FnOK Tryz.prog 149 F149 := evalF_ok (E := E149) (T := B149) E149_ok mix Tryz.func149 rfl (by kernel_rfl) (by kernel_rfl) (fun k => by kernel_rfl) (fun k x => by kernel_rfl)
noncomputable abbrev P90 : List PT := [.val ⟨true, Y12_2, false⟩, .val ⟨true, Y12_2, false⟩]
noncomputable abbrev R90 : List RT := [.val ⟨false, .bool, true⟩]
noncomputable def S90 (k : Nat) (a : Int × Int × Int × (List Y12_8) × (List Y12_8) × List Y12_8) (b : Int × Int × Int × (List Y12_8) × (List Y12_8) × List Y12_8) : Option Y12_5 :=
 (bif a.1 == b.1 then
  (bif a.2.1 == b.2.1 then
   (bif a.2.2.1 == b.2.2.1 then
    (S149 k a.2.2.2.1 b.2.2.2.1).bind fun q0 =>
    (bif q0.1.1 then
     (S149 k a.2.2.2.2.1 b.2.2.2.2.1).bind fun q1 =>
     (bif q1.1.1 then
      (S149 k a.2.2.2.2.2 b.2.2.2.2.2).bind fun q2 =>
      some ((q2.1.1, ()), ())
     else
      some ((false, ()), ()))
    else
     some ((false, ()), ()))
   else
    some ((false, ()), ()))
  else
   some ((false, ()), ()))
 else
  some ((false, ()), ()))
noncomputable def E90 : Env := tab.env (lk [(149, F149)]) (hintL [])
theorem E90_ok : EnvOK Tryz.prog E90 := envOK_of tabOK _ _ (allFn_lk (l := [(149, F149)]) ⟨ok149, trivial⟩)
noncomputable def B90 (k : Nat) : Tbl (RD R90 × MD P90) := .nil
noncomputable def F90 : Fn := ⟨P90, R90, fun k x => S90 k x.1 x.2.1⟩
theorem ok90 : FnOK Tryz.prog 90 F90 := evalF_ok (E := E90) (T := B90) E90_ok mix Tryz.func90 rfl (by kernel_rfl) (by kernel_rfl) (fun k => by kernel_rfl) (fun k x => by kernel_rfl)
noncomputable abbrev P44 : List PT := [.val ⟨false, (.sl 77 Y12_2), false⟩, .val ⟨false, (.sl 77 Y12_2), false⟩]
noncomputable abbrev R44 : List RT := [.val ⟨false, .bool, true⟩]
noncomputable abbrev c44_L4 : Cut := ⟨[0, 1, 5], [.cell (.sl 77 Y12_2), .cell (.sl 77 Y12_2), .cell (.int .i64)], [], 27, []⟩
noncomputable def l44_4 (k : Nat) (g4 : (List Y12_3) → (List Y12_3) → Int → Option Y12_5) (a1 : List Y12_3) (b1 : List Y12_3) (i : Int) : Option Y12_5 :=
 (bif decide (i < (a1.length : Int)) then
  ix a1 i <|
  ix b1 i <|
  (S90 k (rd a1 i (0, 0, 0, [], [], [])) (rd b1 i (0, 0, 0, [], [], []))).bind fun q0 =>
  (bif !q0.1.1 then
   some ((false, ()), ())
  else
   g4 a1 b1 (IntKind.i64.wrap (i + 1)))
 else
  some ((true, ()), ()))
noncomputable def b44_4 (k : Nat) (g : ((Unit) × (List Y12_3) × (List Y12_3) × Int × Unit) → Option Y12_5) (d : (Unit) × (List Y12_3) × (List Y12_3) × Int × Unit) : Option Y12_5 := l44_4 k (fun a1 b1 i => g ((), a1, b1, i, ())) d.2.1 d.2.2.1 d.2.2.2.1
noncomputable def L44_4 (k : Nat) (j : Nat) (a1 : List Y12_3) (b1 : List Y12_3) (i : Int) : Option Y12_5 := iter (R := Y12_22 × Unit) c44_L4 (b44_4 k) j ((), a1, b1, i, ())
theorem L44_4_s (k : Nat) (j : Nat) (a1 : List Y12_3) (b1 : List Y12_3) (i : Int) : L44_4 k (j + 1) a1 b1 i = l44_4 k (L44_4 k j) a1 b1 i := iter_succ _ _ _ _
noncomputable def S44 (k : Nat) (a : List Y12_3) (b : List Y12_3) : Option Y12_5 :=
 (bif (a.length : Int) != (b.length : Int) then
  some ((false, ()), ())
 else
  L44_4 k k a b 0)
noncomputable def E44 : Env := tab.env (lk [(90, F90)]) (hintL [])
theorem E44_ok : EnvOK Tryz.prog E44 := envOK_of tabOK _ _ (allFn_lk (l := [(90, F90)]) ⟨ok90, trivial⟩)
noncomputable def B44 (k : Nat) : Tbl (RD R44 × MD P44) := (.loop 4 c44_L4 (b44_4 k) (fun g => .nil) .nil)
noncomputable def F44 : Fn := ⟨P44, R44, fun k x => S44 k x.1 x.2.1⟩
theorem ok44 : FnOK Tryz.prog 44 F44 := evalF_ok (E := E44) (T := B44) E44_ok mix Tryz.func44 rfl (by kernel_rfl) (by kernel_rfl) (fun k => by kernel_rfl) (fun k x => by kernel_rfl)
noncomputable abbrev P45 : List PT := [.val ⟨false, (.sl 96 (arrT 5 (.int .i64))), false⟩, .val ⟨false, (.sl 96 (arrT 5 (.int .i64))), false⟩]
noncomputable abbrev R45 : List RT := [.val ⟨false, .bool, true⟩]
noncomputable abbrev c45_L4 : Cut := ⟨[0, 1, 5], [.cell (.sl 96 (arrT 5 (.int .i64))), .cell (.sl 96 (arrT 5 (.int .i64))), .cell (.int .i64)], [], 26, []⟩
noncomputable def l45_4 (k : Nat) (g4 : (List (PN Int 5)) → (List (PN Int 5)) → Int → Option Y12_5) (a1 : List (PN Int 5)) (b1 : List (PN Int 5)) (i : Int) : Option Y12_5 :=
 (bif decide (i < (a1.length : Int)) then
  ix a1 i <|
  ix b1 i <|
  (bif !(beqD (arrT 5 (.int .i64)) (rd a1 i (prep (α := Int) 5 0)) (rd b1 i (prep (α := Int) 5 0))) then
   some ((false, ()), ())
  else
   g4 a1 b1 (IntKind.i64.wrap (i + 1)))
 else
  some ((true, ()), ()))
noncomputable def b45_4 (k : Nat) (g : ((Unit) × (List (PN Int 5)) × (List (PN Int 5)) × Int × Unit) → Option Y12_5) (d : (Unit) × (List (PN Int 5)) × (List (PN Int 5)) × Int × Unit) : Option Y12_5 := l45_4 k (fun a1 b1 i => g ((), a1, b1, i, ())) d.2.1 d.2.2.1 d.2.2.2.1
noncomputable def L45_4 (k : Nat) (j : Nat) (a1 : List (PN Int 5)) (b1 : List (PN Int 5)) (i : Int) : Option Y12_5 := iter (R := Y12_22 × Unit) c45_L4 (b45_4 k) j ((), a1, b1, i, ())
theorem L45_4_s (k : Nat) (j : Nat) (a1 : List (PN Int 5)) (b1 : List (PN Int 5)) (i : Int) : L45_4 k (j + 1) a1 b1 i = l45_4 k (L45_4 k j) a1 b1 i := iter_succ _ _ _ _
noncomputable def S45 (k : Nat) (a : List (PN Int 5)) (b : List (PN Int 5)) : Option Y12_5 :=
 (bif (a.length : Int) != (b.length : Int) then
  some ((false, ()), ())
 else
  L45_4 k k a b 0)
noncomputable def E45 : Env := tab.env (lk []) (hintL [])
theorem E45_ok : EnvOK Tryz.prog E45 := envOK_of tabOK _ _ (fun f F h => by cases h)
noncomputable def B45 (k : Nat) : Tbl (RD R45 × MD P45) := (.loop 4 c45_L4 (b45_4 k) (fun g => .nil) .nil)
noncomputable def F45 : Fn := ⟨P45, R45, fun k x => S45 k x.1 x.2.1⟩
theorem ok45 : FnOK Tryz.prog 45 F45 := evalF_ok (E := E45) (T := B45) E45_ok mix Tryz.func45 rfl (by kernel_rfl) (by kernel_rfl) (fun k => by kernel_rfl) (fun k x => by kernel_rfl)
noncomputable abbrev P150 : List PT := [.val ⟨true, (.pair (.int .i64) (.pair (arrT 8 (.int .i64)) (.pair (.sl 233 Y12_7) .bool))), false⟩, .val ⟨true, (.pair (.int .i64) (.pair (arrT 8 (.int .i64)) (.pair (.sl 233 Y12_7) .bool))), false⟩]
noncomputable abbrev R150 : List RT := [.val ⟨false, .bool, true⟩]
noncomputable abbrev c150_L4 : Cut := ⟨[2, 3, 5], [.box 92 [.cell (.int .i64), .cell (.int .i64), .cell (.int .i64), .cell (.int .i64), .cell (.int .i64), .cell (.int .i64), .cell (.int .i64), .cell (.int .i64), .cell (.int .i64), .cell (.sl 233 Y12_7), .cell .bool], .box 92 [.cell (.int .i64), .cell (.int .i64), .cell (.int .i64), .cell (.int .i64), .cell (.int .i64), .cell (.int .i64), .cell (.int .i64), .cell (.int .i64), .cell (.int .i64), .cell (.sl 233 Y12_7), .cell .bool], .cell (.int .i64)], [], 52, []⟩
noncomputable def l150_4 (k : Nat) (g4 : Int → Int → Int → Int → Int → Int → Int → Int → Int → (List Y12_15) → Bool → Int → Int → Int → Int → Int → Int → Int → Int → Int → (List Y12_15) → Bool → Int → Option Y12_5) (a1 : Int) (a2 : Int) (a3 : Int) (a4 : Int) (a5 : Int) (a6 : Int) (a7 : Int) (a8 : Int) (a9 : Int) (a10 : List Y12_15) (a11 : Bool) (b1 : Int) (b2 : Int) (b3 : Int) (b4 : Int) (b5 : Int) (b6 : Int) (b7 : Int) (b8 : Int) (b9 : Int) (b10 : List Y12_15) (b11 : Bool) (i : Int) : Option Y12_5 :=
 (bif decide (i < (a10.length : Int)) then
  ix a10 i <|
  ix b10 i <|
  (bif !(beqD Y12_7 (rd a10 i (0, 0, 0)) (rd b10 i (0, 0, 0))) then
   some ((false, ()), ())
  else
   g4 a1 a2 a3 a4 a5 a6 a7 a8 a9 a10 a11 b1 b2 b3 b4 b5 b6 b7 b8 b9 b10 b11 (IntKind.i64.wrap (i + 1)))
 else
  some ((true, ()), ()))
noncomputable def b150_4 (k : Nat) (g : ((Unit) × Y12_11 × Y12_11 × Int × Unit) → Option Y12_5) (d : (Unit) × Y12_11 × Y12_11 × Int × Unit) : Option Y12_5 := l150_4 k (fun a1 a2 a3 a4 a5 a6 a7 a8 a9 a10 a11 b1 b2 b3 b4 b5 b6 b7 b8 b9 b10 b11 i => g ((), (a1, a2, a3, a4, a5, a6, a7, a8, a9, a10, a11, ()), (b1, b2, b3, b4, b5, b6, b7, b8, b9, b10, b11, ()), i, ())) d.2.1.1 d.2.1.2.1 d.2.1.2.2.1 d.2.1.2.2.2.1 d.2.1.2.2.2.2.1 d.2.1.2.2.2.2.2.1 d.2.1.2.2.2.2.2.2.1 d.2.1.2.2.2.2.2.2.2.1 d.2.1.2.2.2.2.2.2.2.2.1 d.2.1.2.2.2.2.2.2.2.2.2.1 d.2.1.2.2.2.2.2.2.2.2.2.2.1 d.2.2.1.1 d.2.2.1.2.1 d.2.2.1.2.2.1 d.2.2.1.2.2.2.1 d.2.2.1.2.2.2.2.1 d.2.2.1.2.2.2.2.2.1 d.2.2.1.2.2.2.2.2.2.1 d.2.2.1.2.2.2.2.2.2.2.1 d.2.2.1.2.2.2.2.2.2.2.2.1 d.2.2.1.2.2.2.2.2.2.2.2.2.1 d.2.2.1.2.2.2.2.2.2.2.2.2.2.1 d.2.2.2.1
noncomputable def L150_4 (k : Nat) (j : Nat) (a1 : Int) (a2 : Int) (a3 : Int) (a4 : Int) (a5 : Int) (a6 : Int) (a7 : Int) (a8 : Int) (a9 : Int) (a10 : List Y12_15) (a11 : Bool) (b1 : Int) (b2 : Int) (b3 : Int) (b4 : Int) (b5 : Int) (b6 : Int) (b7 : Int) (b8 : Int) (b9 : Int) (b10 : List Y12_15) (b11 : Bool) (i : Int) : Option Y12_5 := iter (R := Y12_22 × Unit) c150_L4 (b150_4 k) j ((), (a1, a2, a3, a4, a5, a6, a7, a8, a9, a10, a11, ()), (b1, b2, b3, b4, b5, b6, b7, b8, b9, b10, b11, ()), i, ())
theorem L150_4_s (k : Nat) (j : Nat) (a1 : Int) (a2 : Int) (a3 : Int) (a4 : Int) (a5 : Int) (a6 : Int) (a7 : Int) (a8 : Int) (a9 : Int) (a10 : List Y12_15) (a11 : Bool) (b1 : Int) (b2 : Int) (b3 : Int) (b4 : Int) (b5 : Int) (b6 : Int) (b7 : Int) (b8 : Int) (b9 : Int) (b10 : List Y12_15) (b11 : Bool) (i : Int) : L150_4 k (j + 1) a1 a2 a3 a4 a5 a6 a7 a8 a9 a10 a11 b1 b2 b3 b4 b5 b6 b7 b8 b9 b10 b11 i = l150_4 k (L150_4 k j) a1 a2 a3 a4 a5 a6 a7 a8 a9 a10 a11 b1 b2 b3 b4 b5 b6 b7 b8 b9 b10 b11 i := iter_succ _ _ _ _
noncomputable def S150 (k : Nat) (a : Int × (PN Int 8) × (List Y12_15) × Bool) (b : Int × (PN Int 8) × (List Y12_15) × Bool) : Option Y12_5 :=
 (bif a.1 != b.1 then
  some ((false, ()), ())
 else
  (bif !(beqD (arrT 8 (.int .i64)) a.2.1 b.2.1) then
   some ((false, ()), ())
  else
   (bif !(a.2.2.2 == b.2.2.2) then
    some ((false, ()), ())
   else
    (bif (a.2.2.1.length : Int) != (b.2.2.1.length : Int) then
     some ((false, ()), ())
    else
     L150_4 k k a.1 a.2.1.1 a.2.1.2.1 a.2.1.2.2.1 a.2.1.2.2.2.1 a.2.1.2.2.2.2.1 a.2.1.2.2.2.2.2.1 a.2.1.2.2.2.2.2.2.1 a.2.1.2.2.2.2.2.2.2 a.2.2.1 a.2.2.2 b.1 b.2.1.1 b.2.1.2.1 b.2.1.2.2.1 b.2.1.2.2.2.1 b.2.1.2.2.2.2.1 b.2.1.2.2.2.2.2.1 b.2.1.2.2.2.2.2.2.1 b.2.1.2.2.2.2.2.2.2 b.2.2.1 b.2.2.2 0))))
noncomputable def E150 : Env := tab.env (lk []) (hintL [])
theorem E150_ok : EnvOK Tryz.prog E150 := envOK_of tabOK _ _ (fun f F h => by cases h)
noncomputable def B150 (k : Nat) : Tbl (RD R150 × MD P150) := (.loop 4 c150_L4 (b150_4 k) (fun g => .nil) .nil)
noncomputable def F150 : Fn := ⟨P150, R150, fun k x => S150 k x.1 x.2.1⟩
theorem ok150 : FnOK Tryz.prog 150 F150 := evalF_ok (E := E150) (T := B150) E150_ok mix Tryz.func150 rfl (by kernel_rfl) (by kernel_rfl) (fun k => by kernel_rfl) (fun k x => by kernel_rfl)
noncomputable abbrev P94 : List PT := [.val ⟨false, Y12_9, false⟩, .val ⟨false, Y12_9, false⟩]
noncomputable abbrev R94 : List RT := [.val ⟨false, .bool, true⟩]
noncomputable abbrev c94_L4 : Cut := ⟨[0, 1, 5], [.cell Y12_9, .cell Y12_9, .cell (.int .i64)], [], 26, []⟩
noncomputable def l94_4 (k : Nat) (g4 : (List Int) → (List Int) → Int → Option Y12_5) (a1 : List Int) (b1 : List Int) (i : Int) : Option Y12_5 :=
 (bif decide (i < (a1.length : Int)) then
  ix a1 i <|
  ix b1 i <|
  (bif (rd a1 i 0) != (rd b1 i 0) then
   some ((false, ()), ())
  else
   g4 a1 b1 (IntKind.i64.wrap (i + 1)))
 else
  some ((true, ()), ()))
noncomputable def b94_4 (k : Nat) (g : ((Unit) × (List Int) × (List Int) × Int × Unit) → Option Y12_5) (d : (Unit) × (List Int) × (List Int) × Int × Unit) : Option Y12_5 := l94_4 k (fun a1 b1 i => g ((), a1, b1, i, ())) d.2.1 d.2.2.1 d.2.2.2.1
noncomputable def L94_4 (k : Nat) (j : Nat) (a1 : List Int) (b1 : List Int) (i : Int) : Option Y12_5 := iter (R := Y12_22 × Unit) c94_L4 (b94_4 k) j ((), a1, b1, i, ())
theorem L94_4_s (k : Nat) (j : Nat) (a1 : List Int) (b1 : List Int) (i : Int) : L94_4 k (j + 1) a1 b1 i = l94_4 k (L94_4 k j) a1 b1 i := iter_succ _ _ _ _
noncomputable def S94 (k : Nat) (a : List Int) (b : List Int) : Option Y12_5 :=
 (bif (a.length : Int) != (b.length : Int) then
  some ((false, ()), ())
 else
  L94_4 k k a b 0)
noncomputable def E94 : Env := tab.env (lk []) (hintL [])
theorem E94_ok : EnvOK Tryz.prog E94 := envOK_of tabOK _ _ (fun f F h => by cases h)
noncomputable def B94 (k : Nat) : Tbl (RD R94 × MD P94) := (.loop 4 c94_L4 (b94_4 k) (fun g => .nil) .nil)
noncomputable def F94 : Fn := ⟨P94, R94, fun k x => S94 k x.1 x.2.1⟩
theorem ok94 : FnOK Tryz.prog 94 F94 := evalF_ok (E := E94) (T := B94) E94_ok mix Tryz.func94 rfl (by kernel_rfl) (by kernel_rfl) (fun k => by kernel_rfl) (fun k x => by kernel_rfl)
noncomputable abbrev P91 : List PT := [.val ⟨true, Y12_0, false⟩, .val ⟨true, Y12_0, false⟩]
noncomputable abbrev R91 : List RT := [.val ⟨false, .bool, true⟩]
noncomputable def S91 (k : Nat) (a : Y12_18) (b : Y12_18) : Option Y12_5 :=
 (bif a.1 == b.1 then
  (bif a.2.1 == b.2.1 then
   (bif a.2.2.1 == b.2.2.1 then
    (bif a.2.2.2.1 == b.2.2.2.1 then
     (bif a.2.2.2.2.2.2.2 == b.2.2.2.2.2.2.2 then
      (S150 k a.2.2.2.2.1 b.2.2.2.2.1).bind fun q0 =>
      (bif q0.1.1 then
       (S150 k a.2.2.2.2.2.1 b.2.2.2.2.2.1).bind fun q1 =>
       (bif q1.1.1 then
        (S94 k a.2.2.2.2.2.2.1 b.2.2.2.2.2.2.1).bind fun q2 =>
        some ((q2.1.1, ()), ())
       else
        some ((false, ()), ()))
      else
       some ((false, ()), ()))
     else
      some ((false, ()), ()))
    else
     some ((false, ()), ()))
   else
    some ((false, ()), ()))
  else
   some ((false, ()), ()))
 else
  some ((false, ()), ()))
noncomputable def E91 : Env := tab.env (lk [(94, F94), (150, F150)]) (hintL [])
theorem E91_ok : EnvOK Tryz.prog E91 := envOK_of tabOK _ _ (allFn_lk (l := [(94, F94), (150, F150)]) ⟨ok94, ok150, trivial⟩)
noncomputable def B91 (k : Nat) : Tbl (RD R91 × MD P91) := .nil
noncomputable def F91 : Fn := ⟨P91, R91, fun k x => S91 k x.1 x.2.1⟩
theorem ok91 : FnOK Tryz.prog 91 F91 := evalF_ok (E := E91) (T := B91) E91_ok mix Tryz.func91 rfl (by kernel_rfl) (by kernel_rfl) (fun k => by kernel_rfl) (fun k x => by kernel_rfl)
noncomputable abbrev P46 : List PT := [.val ⟨false, (.sl 94 Y12_0), false⟩, .val ⟨false, (.sl 94 Y12_0), false⟩]
noncomputable abbrev R46 : List RT := [.val ⟨false, .bool, true⟩]
noncomputable abbrev c46_L4 : Cut := ⟨[0, 1, 5], [.cell (.sl 94 Y12_0), .cell (.sl 94 Y12_0), .cell (.int .i64)], [], 27, []⟩
noncomputable def l46_4 (k : Nat) (g4 : (List Y12_1) → (List Y12_1) → Int → Option Y12_5) (a1 : List Y12_1) (b1 : List Y12_1) (i : Int) : Option Y12_5 :=
 (bif decide (i < (a1.length : Int)) then
  ix a1 i <|
  ix b1 i <|
  (S91 k (rd a1 i (0, 0, 0, 0, (0, prep (α := Int) 8 0, [], false), (0, prep (α := Int) 8 0, [], false), [], false)) (rd b1 i (0, 0, 0, 0, (0, prep (α := Int) 8 0, [], false), (0, prep (α := Int) 8 0, [], false), [], false))).bind fun q0 =>
  (bif !q0.1.1 then
   some ((false, ()), ())
  else
   g4 a1 b1 (IntKind.i64.wrap (i + 1)))
 else
  some ((true, ()), ()))
noncomputable def b46_4 (k : Nat) (g : ((Unit) × (List Y12_1) × (List Y12_1) × Int × Unit) → Option Y12_5) (d : (Unit) × (List Y12_1) × (List Y12_1) × Int × Unit) : Option Y12_5 := l46_4 k (fun a1 b1 i => g ((), a1, b1, i, ())) d.2.1 d.2.2.1 d.2.2.2.1
noncomputable def L46_4 (k : Nat) (j : Nat) (a1 : List Y12_1) (b1 : List Y12_1) (i : Int) : Option Y12_5 := iter (R := Y12_22 × Unit) c46_L4 (b46_4 k) j ((), a1, b1, i, ())
theorem L46_4_s (k : Nat) (j : Nat) (a1 : List Y12_1) (b1 : List Y12_1) (i : Int) : L46_4 k (j + 1) a1 b1 i = l46_4 k (L46_4 k j) a1 b1 i := iter_succ _ _ _ _
noncomputable def S46 (k : Nat) (a : List Y12_1) (b : List Y12_1) : Option Y12_5 :=
 (bif (a.length : Int) != (b.length : Int) then
  some ((false, ()), ())
 else
  L46_4 k k a b 0)
noncomputable def E46 : Env := tab.env (lk [(91, F91)]) (hintL [])
theorem E46_ok : EnvOK Tryz.prog E46 := envOK_of tabOK _ _ (allFn_lk (l := [(91, F91)]) ⟨ok91, trivial⟩)
noncomputable def B46 (k : Nat) : Tbl (RD R46 × MD P46) := (.loop 4 c46_L4 (b46_4 k) (fun g => .nil) .nil)
noncomputable def F46 : Fn := ⟨P46, R46, fun k x => S46 k x.1 x.2.1⟩
theorem ok46 : FnOK Tryz.prog 46 F46 := evalF_ok (E := E46) (T := B46) E46_ok mix Tryz.func46 rfl (by kernel_rfl) (by kernel_rfl) (fun k => by kernel_rfl) (fun k x => by kernel_rfl)
noncomputable abbrev P92 : List PT := [.val ⟨true, Y12_21, false⟩, .val ⟨true, Y12_21, false⟩]
noncomputable abbrev R92 : List RT := [.val ⟨false, .bool, true⟩]
noncomputable abbrev c92_L9 : Cut := ⟨[2, 3, 6], [.box 38 [.cell Y12_9, .cell (.sl 4 .bool)], .box 38 [.cell Y12_9, .cell (.sl 4 .bool)], .cell (.int .i64)], [], 59, []⟩
noncomputable def l92_9 (k : Nat) (g9 : Y12_17) (a3 : List Int) (a4 : List Bool) (b3 : List Int) (b4 : List Bool) (i1 : Int) : Option Y12_5 :=
 (bif decide (i1 < (a4.length : Int)) then
  ix a4 i1 <|
  ix b4 i1 <|
  (bif !((rd a4 i1 false) == (rd b4 i1 false)) then
   some ((false, ()), ())
  else
   g9 a3 a4 b3 b4 (IntKind.i64.wrap (i1 + 1)))
 else
  some ((true, ()), ()))
noncomputable def b92_9 (k : Nat) (g : Y12_20) (d : (Unit) × Y12_10 × Y12_10 × Int × Unit) : Option Y12_5 := l92_9 k (fun a3 a4 b3 b4 i1 => g ((), (a3, a4, ()), (b3, b4, ()), i1, ())) d.2.1.1 d.2.1.2.1 d.2.2.1.1 d.2.2.1.2.1 d.2.2.2.1
noncomputable def L92_9 (k : Nat) (j : Nat) (a3 : List Int) (a4 : List Bool) (b3 : List Int) (b4 : List Bool) (i1 : Int) : Option Y12_5 := iter (R := Y12_22 × Unit) c92_L9 (b92_9 k) j ((), (a3, a4, ()), (b3, b4, ()), i1, ())
theorem L92_9_s (k : Nat) (j : Nat) (a3 : List Int) (a4 : List Bool) (b3 : List Int) (b4 : List Bool) (i1 : Int) : L92_9 k (j + 1) a3 a4 b3 b4 i1 = l92_9 k (L92_9 k j) a3 a4 b3 b4 i1 := iter_succ _ _ _ _
noncomputable abbrev c92_L4 : Cut := ⟨[2, 3, 5], [.box 38 [.cell Y12_9, .cell (.sl 4 .bool)], .box 38 [.cell Y12_9, .cell (.sl 4 .bool)], .cell (.int .i64)], [], 59, []⟩
noncomputable def l92_4 (k : Nat) (g4 : Y12_17) (a1 : List Int) (a2 : List Bool) (b1 : List Int) (b2 : List Bool) (i : Int) : Option Y12_5 :=
 (bif decide (i < (a1.length : Int)) then
  ix a1 i <|
  ix b1 i <|
  (bif (rd a1 i 0) != (rd b1 i 0) then
   some ((false, ()), ())
  else
   g4 a1 a2 b1 b2 (IntKind.i64.wrap (i + 1)))
 else
  L92_9 k k a1 a2 b1 b2 0)
noncomputable def b92_4 (k : Nat) (g : Y12_20) (d : (Unit) × Y12_10 × Y12_10 × Int × Unit) : Option Y12_5 := l92_4 k (fun a1 a2 b1 b2 i => g ((), (a1, a2, ()), (b1, b2, ()), i, ())) d.2.1.1 d.2.1.2.1 d.2.2.1.1 d.2.2.1.2.1 d.2.2.2.1
noncomputable def L92_4 (k : Nat) (j : Nat) (a1 : List Int) (a2 : List Bool) (b1 : List Int) (b2 : List Bool) (i : Int) : Option Y12_5 := iter (R := Y12_22 × Unit) c92_L4 (b92_4 k) j ((), (a1, a2, ()), (b1, b2, ()), i, ())
theorem L92_4_s (k : Nat) (j : Nat) (a1 : List Int) (a2 : List Bool) (b1 : List Int) (b2 : List Bool) (i : Int) : L92_4 k (j + 1) a1 a2 b1 b2 i = l92_4 k (L92_4 k j) a1 a2 b1 b2 i := iter_succ _ _ _ _
noncomputable def S92 (k : Nat) (a : (List Int) × List Bool) (b : (List Int) × List Bool) : Option Y12_5 :=
 (bif (a.1.length : Int) != (b.1.length : Int) then
  some ((false, ()), ())
 else
  (bif (a.2.length : Int) != (b.2.length : Int) then
   some ((false, ()), ())
  else
   L92_4 k k a.1 a.2 b.1 b.2 0))
noncomputable def E92 : Env := tab.env (lk []) (hintL [])
theorem E92_ok : EnvOK Tryz.prog E92 := envOK_of tabOK _ _ (fun f F h => by cases h)
noncomputable def B92 (k : Nat) : Tbl (RD R92 × MD P92) := (.loop 9 c92_L9 (b92_9 k) (fun g => .nil) (.loop 4 c92_L4 (b92_4 k) (fun g => .nil) .nil))
noncomputable def F92 : Fn := ⟨P92, R92, fun k x => S92 k x.1 x.2.1⟩
theorem ok92 : FnOK Tryz.prog 92 F92 := evalF_ok (E := E92) (T := B92) E92_ok mix Tryz.func92 rfl (by kernel_rfl) (by kernel_rfl) (fun k => by kernel_rfl) (fun k x => by kernel_rfl)
noncomputable abbrev P151 : List PT := [.val ⟨true, (.pair (.sl 2 (.int .i64)) Y12_9), false⟩, .val ⟨true, (.pair (.sl 2 (.int .i64)) Y12_9), false⟩]
noncomputable abbrev R151 : List RT := [.val ⟨false, .bool, true⟩]
noncomputable abbrev c151_L9 : Cut := ⟨[2, 3, 6], [.box 117 [.cell (.sl 2 (.int .i64)), .cell Y12_9], .box 117 [.cell (.sl 2 (.int .i64)), .cell Y12_9], .cell (.int .i64)], [], 59, []⟩
noncomputable def l151_9 (k : Nat) (g9 : (List Int) → (List Int) → (List Int) → (List Int) → Int → Option Y12_5) (a3 : List Int) (a4 : List Int) (b3 : List Int) (b4 : List Int) (i1 : Int) : Option Y12_5 :=
 (bif decide (i1 < (a4.length : Int)) then
  ix a4 i1 <|
  ix b4 i1 <|
  (bif (rd a4 i1 0) != (rd b4 i1 0) then
   some ((false, ()), ())
  else
   g9 a3 a4 b3 b4 (IntKind.i64.wrap (i1 + 1)))
 else
  some ((true, ()), ()))
noncomputable def b151_9 (k : Nat) (g : ((Unit) × Y12_13 × Y12_13 × Int × Unit) → Option Y12_5) (d : (Unit) × Y12_13 × Y12_13 × Int × Unit) : Option Y12_5 := l151_9 k (fun a3 a4 b3 b4 i1 => g ((), (a3, a4, ()), (b3, b4, ()), i1, ())) d.2.1.1 d.2.1.2.1 d.2.2.1.1 d.2.2.1.2.1 d.2.2.2.1
noncomputable def L151_9 (k : Nat) (j : Nat) (a3 : List Int) (a4 : List Int) (b3 : List Int) (b4 : List Int) (i1 : Int) : Option Y12_5 := iter (R := Y12_22 × Unit) c151_L9 (b151_9 k) j ((), (a3, a4, ()), (b3, b4, ()), i1, ())
theorem L151_9_s (k : Nat) (j : Nat) (a3 : List Int) (a4 : List Int) (b3 : List Int) (b4 : List Int) (i1 : Int) : L151_9 k (j + 1) a3 a4 b3 b4 i1 = l151_9 k (L151_9 k j) a3 a4 b3 b4 i1 := iter_succ _ _ _ _
noncomputable abbrev c151_L4 : Cut := ⟨[2, 3, 5], [.box 117 [.cell (.sl 2 (.int .i64)), .cell Y12_9], .box 117 [.cell (.sl 2 (.int .i64)), .cell Y12_9], .cell (.int .i64)], [], 59, []⟩
noncomputable def l151_4 (k : Nat) (g4 : (List Int) → (List Int) → (List Int) → (List Int) → Int → Option Y12_5) (a1 : List Int) (a2 : List Int) (b1 : List Int) (b2 : List Int) (i : Int) : Option Y12_5 :=
 (bif decide (i < (a1.length : Int)) then
  ix a1 i <|
  ix b1 i <|
  (bif (rd a1 i 0) != (rd b1 i 0) then
   some ((false, ()), ())
  else
   g4 a1 a2 b1 b2 (IntKind.i64.wrap (i + 1)))
 else
  L151_9 k k a1 a2 b1 b2 0)
noncomputable def b151_4 (k : Nat) (g : ((Unit) × Y12_13 × Y12_13 × Int × Unit) → Option Y12_5) (d : (Unit) × Y12_13 × Y12_13 × Int × Unit) : Option Y12_5 := l151_4 k (fun a1 a2 b1 b2 i => g ((), (a1, a2, ()), (b1, b2, ()), i, ())) d.2.1.1 d.2.1.2.1 d.2.2.1.1 d.2.2.1.2.1 d.2.2.2.1
noncomputable def L151_4 (k : Nat) (j : Nat) (a1 : List Int) (a2 : List Int) (b1 : List Int) (b2 : List Int) (i : Int) : Option Y12_5 := iter (R := Y12_22 × Unit) c151_L4 (b151_4 k) j ((), (a1, a2, ()), (b1, b2, ()), i, ())
theorem L151_4_s (k : Nat) (j : Nat) (a1 : List Int) (a2 : List Int) (b1 : List Int) (b2 : List Int) (i : Int) : L151_4 k (j + 1) a1 a2 b1 b2 i = l151_4 k (L151_4 k j) a1 a2 b1 b2 i := iter_succ _ _ _ _
noncomputable def S151 (k : Nat) (a : (List Int) × List Int) (b : (List Int) × List Int) : Option Y12_5 :=
 (bif (a.1.length : Int) != (b.1.length : Int) then
  some ((false, ()), ())
 else
  (bif (a.2.length : Int) != (b.2.length : Int) then
   some ((false, ()), ())
  else
   L151_4 k k a.1 a.2 b.1 b.2 0))
noncomputable def E151 : Env := tab.env (lk []) (hintL [])
theorem E151_ok : EnvOK Tryz.prog E151 := envOK_of tabOK _ _ (fun f F h => by cases h)
noncomputable def B151 (k : Nat) : Tbl (RD R151 × MD P151) := (.loop 9 c151_L9 (b151_9 k) (fun g => .nil) (.loop 4 c151_L4 (b151_4 k) (fun g => .nil) .nil))
noncomputable def F151 : Fn := ⟨P151, R151, fun k x => S151 k x.1 x.2.1⟩
theorem ok151 : FnOK Tryz.prog 151 F151 := evalF_ok (E := E151) (T := B151) E151_ok mix Tryz.func151 rfl (by kernel_rfl) (by kernel_rfl) (fun k => by kernel_rfl) (fun k x => by kernel_rfl)
noncomputable abbrev P192 : List PT := [.val ⟨false, Y12_14, false⟩, .val ⟨false, Y12_14, false⟩]
noncomputable abbrev R192 : List RT := [.val ⟨false, .bool, true⟩]
noncomputable abbrev c192_L4 : Cut := ⟨[0, 1, 5], [.cell Y12_14, .cell Y12_14, .cell (.int .i64)], [], 26, []⟩
noncomputable def l192_4 (k : Nat) (g4 : (List (Int × Int)) → (List (Int × Int)) → Int → Option Y12_5) (a1 : List (Int × Int)) (b1 : List (Int × Int)) (i : Int) : Option Y12_5 :=
 (bif decide (i < (a1.length : Int)) then
  ix a1 i <|
  ix b1 i <|
  (bif !(beqD (.pair (.int .i64) (.int .u32)) (rd a1 i (0, 0)) (rd b1 i (0, 0))) then
   some ((false, ()), ())
  else
   g4 a1 b1 (IntKind.i64.wrap (i + 1)))
 else
  some ((true, ()), ()))
noncomputable def b192_4 (k : Nat) (g : ((Unit) × (List (Int × Int)) × (List (Int × Int)) × Int × Unit) → Option Y12_5) (d : (Unit) × (List (Int × Int)) × (List (Int × Int)) × Int × Unit) : Option Y12_5 := l192_4 k (fun a1 b1 i => g ((), a1, b1, i, ())) d.2.1 d.2.2.1 d.2.2.2.1
noncomputable def L192_4 (k : Nat) (j : Nat) (a1 : List (Int × Int)) (b1 : List (Int × Int)) (i : Int) : Option Y12_5 := iter (R := Y12_22 × Unit) c192_L4 (b192_4 k) j ((), a1, b1, i, ())
theorem L192_4_s (k : Nat) (j : Nat) (a1 : List (Int × Int)) (b1 : List (Int × Int)) (i : Int) : L192_4 k (j + 1) a1 b1 i = l192_4 k (L192_4 k j) a1 b1 i := iter_succ _ _ _ _
noncomputable def S192 (k : Nat) (a : List (Int × Int)) (b : List (Int × Int)) : Option Y12_5 :=
 (bif (a.length : Int) != (b.length : Int) then
  some ((false, ()), ())
 else
  L192_4 k k a b 0)
noncomputable def E192 : Env := tab.env (lk []) (hintL [])
theorem E192_ok : EnvOK Tryz.prog E192 := envOK_of tabOK _ _ (fun f F h => by cases h)
noncomputable def B192 (k : Nat) : Tbl (RD R192 × MD P192) := (.loop 4 c192_L4 (b192_4 k) (fun g => .nil) .nil)
noncomputable def F192 : Fn := ⟨P192, R192, fun k x => S192 k x.1 x.2.1⟩
theorem ok192 : FnOK Tryz.prog 192 F192 := evalF_ok (E := E192) (T := B192) E192_ok mix Tryz.func192 rfl (by kernel_rfl) (by kernel_rfl) (fun k => by kernel_rfl) (fun k x => by kernel_rfl)
noncomputable abbrev P152 : List PT := [.val ⟨true, (.pair (.int .u32) Y12_14), false⟩, .val ⟨true, (.pair (.int .u32) Y12_14), false⟩]
noncomputable abbrev R152 : List RT := [.val ⟨false, .bool, true⟩]
noncomputable def S152 (k : Nat) (a : Int × List (Int × Int)) (b : Int × List (Int × Int)) : Option Y12_5 :=
 (bif a.1 == b.1 then
  (S192 k a.2 b.2).bind fun q0 =>
  some ((q0.1.1, ()), ())
 else
  some ((false, ()), ()))
noncomputable def E152 : Env := tab.env (lk [(192, F192)]) (hintL [])
theorem E152_ok : EnvOK Tryz.prog E152 := envOK_of tabOK _ _ (allFn_lk (l := [(192, F192)]) ⟨ok192, trivial⟩)
noncomputable def B152 (k : Nat) : Tbl (RD R152 × MD P152) := .nil
noncomputable def F152 : Fn := ⟨P152, R152, fun k x => S152 k x.1 x.2.1⟩
theorem ok152 : FnOK Tryz.prog 152 F152 := evalF_ok (E := E152) (T := B152) E152_ok mix Tryz.func152 rfl (by kernel_rfl) (by kernel_rfl) (fun k => by kernel_rfl) (fun k x => by kernel_rfl)
noncomputable abbrev P93 : List PT := [.val ⟨true, Y12_4, false⟩, .val ⟨true, Y12_4, false⟩]
noncomputable abbrev R93 : List RT := [.val ⟨false, .bool, true⟩]
noncomputable def S93 (k : Nat) (a : Int × (Int × Int) × (Int × Int) × ((List Int) × List Int) × (Int × List (Int × Int)) × Int) (b : Int × (Int × Int) × (Int × Int) × ((List Int) × List Int) × (Int × List (Int × Int)) × Int) : Option Y12_5 :=
 (bif a.1 == b.1 then
  (bif beqD (.pair (.int .i64) (.int .i64)) a.2.1 b.2.1 then
   (bif beqD (.pair (.int .i64) (.int .i64)) a.2.2.1 b.2.2.1 then
    (bif a.2.2.2.2.2 == b.2.2.2.2.2 then
     (S151 k a.2.2.2.1 b.2.2.2.1).bind fun q0 =>
     (bif q0.1.1 then
      (S152 k a.2.2.2.2.1 b.2.2.2.2.1).bind fun q1 =>
      some ((q1.1.1, ()), ())
     else
      some ((false, ()), ()))
    else
     some ((false, ()), ()))
   else
    some ((false, ()), ()))
  else
   some ((false, ()), ()))
 else
  some ((false, ()), ()))
noncomputable def E93 : Env := tab.env (lk [(151, F151), (152, F152)]) (hintL [])
theorem E93_ok : EnvOK Tryz.prog E93 := envOK_of tabOK _ _ (allFn_lk (l := [(151, F151), (152, F152)]) ⟨ok151, ok152, trivial⟩)
noncomputable def B93 (k : Nat) : Tbl (RD R93 × MD P93) := .nil
noncomputable def F93 : Fn := ⟨P93, R93, fun k x => S93 k x.1 x.2.1⟩
theorem ok93 : FnOK Tryz.prog 93 F93 := evalF_ok (E := E93) (T := B93) E93_ok mix Tryz.func93 rfl (by kernel_rfl) (by kernel_rfl) (fun k => by kernel_rfl) (fun k x => by kernel_rfl)
noncomputable abbrev P47 : List PT := [.val ⟨true, (.pair Y12_21 (.sl 122 Y12_4)), false⟩, .val ⟨true, (.pair Y12_21 (.sl 122 Y12_4)), false⟩]
noncomputable abbrev R47 : List RT := [.val ⟨false, .bool, true⟩]
noncomputable abbrev c47_L4 : Cut := ⟨[2, 3, 5], [.box 41 [.cell Y12_9, .cell (.sl 4 .bool), .cell (.sl 122 Y12_4)], .box 41 [.cell Y12_9, .cell (.sl 4 .bool), .cell (.sl 122 Y12_4)], .cell (.int .i64)], [], 40, []⟩
noncomputable def l47_4 (k : Nat) (g4 : (List Int) → (List Bool) → (List Y12_6) → (List Int) → (List Bool) → (List Y12_6) → Int → Option Y12_5) (a1 : List Int) (a2 : List Bool) (a3 : List Y12_6) (b1 : List Int) (b2 : List Bool) (b3 : List Y12_6) (i : Int) : Option Y12_5 :=
 (bif decide (i < (a3.length : Int)) then
  ix a3 i <|
  ix b3 i <|
  (S93 k (rd a3 i (0, (0, 0), (0, 0), ([], []), (0, []), 0)) (rd b3 i (0, (0, 0), (0, 0), ([], []), (0, []), 0))).bind fun q1 =>
  (bif !q1.1.1 then
   some ((false, ()), ())
  else
   g4 a1 a2 a3 b1 b2 b3 (IntKind.i64.wrap (i + 1)))
 else
  some ((true, ()), ()))
noncomputable def b47_4 (k : Nat) (g : ((Unit) × Y12_19 × Y12_19 × Int × Unit) → Option Y12_5) (d : (Unit) × Y12_19 × Y12_19 × Int × Unit) : Option Y12_5 := l47_4 k (fun a1 a2 a3 b1 b2 b3 i => g ((), (a1, a2, a3, ()), (b1, b2, b3, ()), i, ())) d.2.1.1 d.2.1.2.1 d.2.1.2.2.1 d.2.2.1.1 d.2.2.1.2.1 d.2.2.1.2.2.1 d.2.2.2.1
noncomputable def L47_4 (k : Nat) (j : Nat) (a1 : List Int) (a2 : List Bool) (a3 : List Y12_6) (b1 : List Int) (b2 : List Bool) (b3 : List Y12_6) (i : Int) : Option Y12_5 := iter (R := Y12_22 × Unit) c47_L4 (b47_4 k) j ((), (a1, a2, a3, ()), (b1, b2, b3, ()), i, ())
theorem L47_4_s (k : Nat) (j : Nat) (a1 : List Int) (a2 : List Bool) (a3 : List Y12_6) (b1 : List Int) (b2 : List Bool) (b3 : List Y12_6) (i : Int) : L47_4 k (j + 1) a1 a2 a3 b1 b2 b3 i = l47_4 k (L47_4 k j) a1 a2 a3 b1 b2 b3 i := iter_succ _ _ _ _
noncomputable def S47 (k : Nat) (a : ((List Int) × List Bool) × List Y12_6) (b : ((List Int) × List Bool) × List Y12_6) : Option Y12_5 :=
 (bif (a.2.length : Int) != (b.2.length : Int) then
  some ((false, ()), ())
 else
  (S92 k a.1 b.1).bind fun q0 =>
  (bif !q0.1.1 then
   some ((false, ()), ())
  else
   L47_4 k k a.1.1 a.1.2 a.2 b.1.1 b.1.2 b.2 0))
noncomputable def E47 : Env := tab.env (lk [(92, F92), (93, F93)]) (hintL [])
theorem E47_ok : EnvOK Tryz.prog E47 := envOK_of tabOK _ _ (allFn_lk (l := [(92, F92), (93, F93)]) ⟨ok92, ok93, trivial⟩)
noncomputable def B47 (k : Nat) : Tbl (RD R47 × MD P47) := (.loop 4 c47_L4 (b47_4 k) (fun g => .nil) .nil)
noncomputable def F47 : Fn := ⟨P47, R47, fun k x => S47 k x.1 x.2.1⟩
theorem ok47 : FnOK Tryz.prog 47 F47 := evalF_ok (E := E47) (T := B47) E47_ok mix Tryz.func47 rfl (by kernel_rfl) (by kernel_rfl) (fun k => by kernel_rfl) (fun k x => by kernel_rfl)
noncomputable abbrev P48 : List PT := [.val ⟨true, Y12_21, false⟩, .val ⟨true, Y12_21, false⟩]
noncomputable abbrev R48 : List RT := [.val ⟨false, .bool, true⟩]
noncomputable abbrev c48_L4 : Cut := ⟨[2, 3, 5], [.box 42 [.cell Y12_9, .cell (.sl 4 .bool)], .box 42 [.cell Y12_9, .cell (.sl 4 .bool)], .cell (.int .i64)], [], 39, []⟩
noncomputable def l48_4 (k : Nat) (g4 : Y12_17) (a1 : List Int) (a2 : List Bool) (b1 : List Int) (b2 : List Bool) (i : Int) : Option Y12_5 :=
 (bif decide (i < (a2.length : Int)) then
  ix a2 i <|
  ix b2 i <|
  (bif !((rd a2 i false) == (rd b2 i false)) then
   some ((false, ()), ())
  else
   g4 a1 a2 b1 b2 (IntKind.i64.wrap (i + 1)))
 else
  some ((true, ()), ()))
noncomputable def b48_4 (k : Nat) (g : Y12_20) (d : (Unit) × Y12_10 × Y12_10 × Int × Unit) : Option Y12_5 := l48_4 k (fun a1 a2 b1 b2 i => g ((), (a1, a2, ()), (b1, b2, ()), i, ())) d.2.1.1 d.2.1.2.1 d.2.2.1.1 d.2.2.1.2.1 d.2.2.2.1
noncomputable def L48_4 (k : Nat) (j : Nat) (a1 : List Int) (a2 : List Bool) (b1 : List Int) (b2 : List Bool) (i : Int) : Option Y12_5 := iter (R := Y12_22 × Unit) c48_L4 (b48_4 k) j ((), (a1, a2, ()), (b1, b2, ()), i, ())
theorem L48_4_s (k : Nat) (j : Nat) (a1 : List Int) (a2 : List Bool) (b1 : List Int) (b2 : List Bool) (i : Int) : L48_4 k (j + 1) a1 a2 b1 b2 i = l48_4 k (L48_4 k j) a1 a2 b1 b2 i := iter_succ _ _ _ _
noncomputable def S48 (k : Nat) (a : (List Int) × List Bool) (b : (List Int) × List Bool) : Option Y12_5 :=
 (bif (a.2.length : Int) != (b.2.length : Int) then
  some ((false, ()), ())
 else
  (S94 k a.1 b.1).bind fun q0 =>
  (bif !q0.1.1 then
   some ((false, ()), ())
  else
   L48_4 k k a.1 a.2 b.1 b.2 0))
noncomputable def E48 : Env := tab.env (lk [(94, F94)]) (hintL [])
theorem E48_ok : EnvOK Tryz.prog E48 := envOK_of tabOK _ _ (allFn_lk (l := [(94, F94)]) ⟨ok94, trivial⟩)
noncomputable def B48 (k : Nat) : Tbl (RD R48 × MD P48) := (.loop 4 c48_L4 (b48_4 k) (fun g => .nil) .nil)
noncomputable def F48 : Fn := ⟨P48, R48, fun k x => S48 k x.1 x.2.1⟩
theorem ok48 : FnOK Tryz.prog 48 F48 := evalF_ok (E := E48) (T := B48) E48_ok mix Tryz.func48 rfl (by kernel_rfl) (by kernel_rfl) (fun k => by kernel_rfl) (fun k x => by kernel_rfl)
noncomputable abbrev P14 : List PT := [.val ⟨true, Y12_12, false⟩, .val ⟨true, Y12_12, false⟩]
noncomputable abbrev R14 : List RT := [.val ⟨false, .bool, true⟩]
noncomputable def S14 (k : Nat) (a : Y12_16) (b : Y12_16) : Option Y12_5 :=
 (bif a.1 == b.1 then
  (bif a.2.1 == b.2.1 then
   (bif a.2.2.2.2.1 == b.2.2.2.2.1 then
    (bif a.2.2.2.2.2.1 == b.2.2.2.2.2.1 then
     (bif a.2.2.2.2.2.2.1 == b.2.2.2.2.2.2.1 then
      (S44 k a.2.2.1 b.2.2.1).bind fun q0 =>
      (bif q0.1.1 then
       (S45 k a.2.2.2.1 b.2.2.2.1).bind fun q1 =>
       (bif q1.1.1 then
        (S46 k a.2.2.2.2.2.2.2.1 b.2.2.2.2.2.2.2.1).bind fun q2 =>
        (bif q2.1.1 then
         (S47 k a.2.2.2.2.2.2.2.2.1 b.2.2.2.2.2.2.2.2.1).bind fun q3 =>
         (bif q3.1.1 then
          (S48 k a.2.2.2.2.2.2.2.2.2 b.2.2.2.2.2.2.2.2.2).bind fun q4 =>
          some ((q4.1.1, ()), ())
         else
          some ((false, ()), ()))
        else
         some ((false, ()), ()))
       else
        some ((false, ()), ()))
      else
       some ((false, ()), ()))
     else
      some ((false, ()), ()))
    else
     some ((false, ()), ()))
   else
    some ((false, ()), ()))
  else
   some ((false, ()), ()))
 else
  some ((false, ()), ()))
noncomputable def E14 : Env := tab.env (lk [(44, F44), (45, F45), (46, F46), (47, F47), (48, F48)]) (hintL [])
theorem E14_ok : EnvOK Tryz.prog E14 := envOK_of tabOK _ _ (allFn_lk (l := [(44, F44), (45, F45), (46, F46), (47, F47), (48, F48)]) ⟨ok44, ok45, ok46, ok47, ok48, trivial⟩)
noncomputable def B14 (k : Nat) : Tbl (RD R14 × MD P14) := .nil
noncomputable def F14 : Fn := ⟨P14, R14, fun k x => S14 k x.1 x.2.1⟩
theorem ok14 : FnOK Tryz.prog 14 F14 := evalF_ok (E := E14) (T := B14) E14_ok mix Tryz.func14 rfl (by kernel_rfl) (by kernel_rfl) (fun k => by kernel_rfl) (fun k x => by kernel_rfl)
end Go.Proofs.YtmmagcjlfcicfaaGreat.Ab
