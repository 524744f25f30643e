import Derived.Test.YteflacbgobpmcaaGreatPbI
import Derived.Lib.Overlaps
import Derived.Shelf.RegionOpenPlain
import Derived.Test.YteflacbgobpmcaaGreatPbC
/- Contracts, printed by this session's own program gen.py. -/
set_option linter.unusedVariables false
set_option linter.unusedSimpArgs false
set_option maxRecDepth 100000
namespace Go.Proofs.YteflacbgobpmcaaGreat.Ab
open Go.RowKit
abbrev cI : PV := .cell (.int .i64)
abbrev Y0_0 : Type := Int × Int × Int × (List (Int × Int × Int × Int)) × (List (Int × Int × Int × Int)) × List (Int × Int × Int × Int)
abbrev Y0_1 : Ty := .pair (.int .i64) (.pair (.int .i64) (.pair (.int .i64) (.pair (.sl 46 (.pair (.int .i64) (.pair (.int .i64) (.pair (.int .i64) (.int .i64))))) (.pair (.sl 46 (.pair (.int .i64) (.pair (.int .i64) (.pair (.int .i64) (.int .i64))))) (.sl 46 (.pair (.int .i64) (.pair (.int .i64) (.pair (.int .i64) (.int .i64)))))))))
abbrev Y0_2 : Ty := .pair (.int .i64) (.pair (.int .i64) (.pair (.int .i64) (.pair (.int .i64) (.pair (.pair (.int .i64) (.pair (arrT 8 (.int .i64)) (.pair (.sl 270 (.pair (.int .i64) (.pair (.int .i64) (.int .i64)))) .bool))) (.pair (.pair (.int .i64) (.pair (arrT 8 (.int .i64)) (.pair (.sl 270 (.pair (.int .i64) (.pair (.int .i64) (.int .i64)))) .bool))) (.pair (.sl 3 (.int .i64)) .bool))))))
abbrev Y0_3 : Type := Int × Int × Int × Int × (Int × (PN Int 8) × (List (Int × Int × Int)) × Bool) × (Int × (PN Int 8) × (List (Int × Int × Int)) × Bool) × (List Int) × Bool
abbrev Y0_4 : Type := Int × (Int × Int) × (Int × Int) × ((List Int) × List Int) × (Int × List (Int × Int)) × Int
abbrev Y0_5 : Ty := .pair (.int .i64) (.pair (.pair (.int .i64) (.int .i64)) (.pair (.pair (.int .i64) (.int .i64)) (.pair (.pair (.sl 2 (.int .i64)) (.sl 3 (.int .i64))) (.pair (.pair (.int .u32) (.sl 221 (.pair (.int .i64) (.int .u32)))) (.int .u32)))))
abbrev Y0_6 : Ty := .pair (.int .i64) (.pair (.int .i64) (.pair (.int .i64) (.int .i64)))
abbrev Y0_7 : Type := Int × Int × Int × Int
abbrev Y0_8 : Type := Int × Int × (List Y0_0) × (List (PN Int 5)) × Bool × Bool × Bool × (List Y0_3) × (((List Int) × List Bool) × List Y0_4) × (List Int) × List Bool
abbrev Y0_9 : Type := Int × Int × (List Y0_0) × (List (PN Int 5)) × Bool × Bool × Bool × (List Y0_3) × (List Int) × (List Bool) × (List Y0_4) × (List Int) × (List Bool) × Unit
abbrev Y0_10 : Ty := .pair (.int .i64) (.pair (.int .i64) (.pair (.sl 30 Y0_1) (.pair (.sl 43 (arrT 5 (.int .i64))) (.pair .bool (.pair .bool (.pair .bool (.pair (.sl 184 Y0_2) (.pair (.pair (.pair (.sl 3 (.int .i64)) (.sl 4 .bool)) (.sl 177 Y0_5)) (.pair (.sl 3 (.int .i64)) (.sl 4 .bool))))))))))
abbrev Y0_11 : Type := (Int × Unit) × Unit
abbrev Y0_12 : Type := Int × Int × (List Y0_0) × (List (PN Int 5)) × Bool × Bool × Bool × (List Y0_3) × (List Int) × (List Bool) × (List Y0_4) × (List Int) × (List Bool) × Int × Int × Int × Int × (List Y0_7) × (List Y0_7) × (List Y0_7) × Int × Int × Int × Int × Int × (List (PN Int 6)) × Int × Int × Int × Int × Unit
abbrev Y0_13 : Type := Int × Int × Int × Bool
abbrev Y0_14 : Type := List (Int × Int)
abbrev Y0_15 : Type := (Bool × Unit) × Unit
abbrev Y0_16 : Ty := .pair (.int .i64) (.int .i64)
abbrev Y0_17 : Ty := .pair (.int .i64) (.pair (.int .i64) (.pair (.int .i64) .bool))
abbrev Y0_18 : Ty := .sl 3 (.int .i64)
abbrev Y0_19 : Type := ((List Int) × Unit) × Unit
abbrev Y0_20 : Type := Int × Int × (List Y0_0) × (List (PN Int 5)) × Bool × Bool × Bool × (List Y0_3) × (((List Int) × List Bool) × List Y0_4) × (List Int) × List Bool
abbrev Y0_21 : Type := Int × Int × Unit × Unit × Bool × Bool × Bool × Unit × Unit × Unit × Unit × Unit × Unit × Unit
abbrev Y0_22 : Type := (List Y0_7) → (List Y0_13) → (List Int) → (List Y0_13) → Int → Int → Option Y0_15
abbrev Y0_23 : Type := (Int × Int × Int × Unit) × Unit
abbrev Y0_24 : Type := ((List Y0_0) × (List (PN Int 5)) × Int × Unit) × Unit
abbrev Y0_25 : Ty := .sl 46 Y0_6
abbrev Y0_26 : Type := (List Int) × List Bool
abbrev Y0_27 : Type := List (PN Bool 24)
abbrev Y0_28 : Type := Int × Int × Int × (List Y0_7) × (List Y0_7) × List Y0_7
abbrev Y0_29 : Ty := .pair Y0_18 (.sl 4 .bool)
abbrev Y0_30 : Type := (List Y0_0) → Int → Int → Y0_14 → (List Y0_0) → Int → Int → Option Y0_11
abbrev Y0_31 : Type := List (Int × Int)
abbrev Y0_32 : Type := (Y0_14 × Unit) × Unit
abbrev Y0_33 : Type := (List Y0_7) → Y0_27 → (List Y0_13) → Int → Int → Option ((Y0_27 × Unit) × Unit)
abbrev Y0_34 : Type := (Int × Bool × Unit) × Unit
abbrev Y0_35 : Type := (List Y0_0) → Int → Int → Int → Int → Int → Int → Bool → Option Y0_23
abbrev Y0_36 : Type := (List Y0_7) → (List Int) → (List Int) → (List ((PN Bool 24) × Int)) → Y0_27 → Y0_27 → Int → Int → Option (((List Int) × Bool × Unit) × Unit)
abbrev Y0_37 : Ty := arrT 5 (.int .i64)
abbrev Y0_38 : Type := ((List Y0_7) × Unit) × Unit
abbrev Y0_39 : Type := ((Y0_26 × List Y0_4) × (Int × Int) × Bool × Unit) × Unit
abbrev Y0_40 : Ty := .sl 30 Y0_1
abbrev Y0_41 : Type := Int × (Int × Int) × (Int × Int) × ((List Int) × List Int) × (Int × List (Int × Int)) × Int
abbrev Y0_42 : Type := ((Int × Int × List (Int × Int)) × Bool × Unit) × Unit
abbrev Y0_43 : Type := Int → Int → (List Y0_0) → (List (PN Int 5)) → Bool → Bool → Bool → (List Y0_3) → (List Int) → (List Bool) → (List Y0_4) → (List Int) → (List Bool) → Int → Int → Bool → Bool → Bool → Int → Int → Option ((Y0_8 × Unit) × Unit)
abbrev Y0_44 : Type := (Y0_8 × Int × Unit) × Unit
abbrev Y0_45 : Type := ((Y0_26 × List Y0_4) × Unit) × Unit
abbrev Y0_46 : Type := Int → (List Int) → Int → Int → Option Y0_11
abbrev Y0_47 : Type := ((List ((Int × Int) × Bool)) × Unit) × Unit
abbrev Y0_48 : Type := (List Int) → (List Y0_7) → Int → Int → Option Y0_19
abbrev Y0_49 : Type := (List Y0_0) → Int → Int → Y0_14 → (List Y0_0) → Int → Int → Y0_14 → Int → Int → Option Y0_11
abbrev Y0_50 : Type := Int × (PN Int 8) × (List (Int × Int × Int)) × Bool
abbrev Y0_51 : Ty := .pair Y0_29 (.sl 177 Y0_5)
abbrev Y0_52 : Type := List Y0_13
abbrev Y0_53 : Type := Int × Int × Int × (List Y0_7) × (List Y0_7) × (List Y0_7) × Unit
abbrev Y0_54 : Type := Int × Unit
abbrev Y0_55 : Type := ((List (PN Int 5)) × Int × Unit) × Unit
abbrev Y0_56 : Ty := .pair (.int .i64) (.int .u32)
abbrev Y0_57 : Type := (Y0_27 × Unit) × Unit
abbrev Y0_58 : Type := (Y0_8 × Unit) × Unit
abbrev Y0_59 : Type := ((List Int) × Bool × Unit) × Unit
abbrev Y0_60 : Ty := .sl 4 .bool
abbrev Y0_61 : Type := Int × Int × Int × Bool × Unit
abbrev Y0_62 : Type := (List Int) × (List Bool) × (List Y0_4) × Unit
abbrev Y0_63 : Ty := .sl 2 (.int .i64)
abbrev Y0_64 : Type := ((Unit) × (List Y0_7) × Unit × Int × Int × Unit) → Option Y0_11
abbrev Y0_65 : Ty := arrT 24 .bool
abbrev Y0_66 : Ty := arrT 6 (.int .i64)
abbrev Y0_67 : Type := List (PN Int 5)
abbrev Y0_68 : Type := Int × Bool × Unit
abbrev Y0_69 : Type := PN Bool 24
abbrev Y0_70 : Type := (List Int) × List Bool
abbrev Y0_71 : Type := List (List Y0_7)
abbrev Y0_72 : Ty := .sl 177 Y0_5
abbrev Y0_73 : Type := (Int × Int) × Bool
abbrev u0_0 : PT := .mbox 160 [cI, cI, .cell Y0_40, .cell (.sl 43 Y0_37), .cell .bool, .cell .bool, .cell .bool, .cell (.sl 184 Y0_2), .cell Y0_18, .cell Y0_60, .cell Y0_72, .cell Y0_18, .cell Y0_60, cI, cI, cI, cI, .cell Y0_25, .cell Y0_25, .cell Y0_25, cI, cI, cI, cI, .cell (.int .u32), .own 73 Y0_66, cI, cI, cI, cI]
abbrev u0_1 : PT := .pv (.clo 117 [.ref Y0_25, .ref (.int .i64)])
abbrev u0_2 : PT := .val ⟨true, (.pair Y0_63 Y0_18), false⟩
abbrev u0_3 : RT := .val ⟨false, (.sl 120 Y0_16), true⟩
abbrev u0_4 : RT := .val ⟨false, (.sl 43 Y0_37), true⟩
abbrev u0_5 : PT := .val ⟨false, Y0_25, false⟩
abbrev u0_6 : PT := .val ⟨false, Y0_18, false⟩
abbrev u0_7 : PT := .val ⟨false, Y0_40, false⟩
abbrev u0_8 : PT := .val ⟨true, Y0_17, false⟩
abbrev u0_9 : RT := .val ⟨false, Y0_18, true⟩
abbrev u0_10 : PT := .val ⟨true, Y0_51, false⟩
abbrev u0_11 : PT := .val ⟨true, Y0_29, false⟩
abbrev u0_12 : PT := .val ⟨true, Y0_10, false⟩
abbrev u0_13 : PT := .val ⟨true, Y0_16, false⟩
abbrev u0_14 : RT := .val ⟨true, Y0_29, true⟩
abbrev u0_15 : RT := .val ⟨true, Y0_51, true⟩
abbrev u0_16 : RT := .val ⟨true, Y0_10, true⟩
abbrev u0_17 : PT := .val ⟨true, Y0_6, false⟩
abbrev u0_18 : PT := .val ⟨true, Y0_1, false⟩
abbrev u0_19 : PT := .val ⟨true, Y0_5, false⟩
abbrev u0_20 : PT := .pv (.ref (.int .i64))
noncomputable section
def E0 : Env := tab.env (fun _ => none) (fun _ => 0)
theorem E0_ok : EnvOK Tryz.prog E0 := envOK_of tabOK _ _ (fun f F h => by cases h)
theorem okF {f : FuncId} {fn : Func} {F : Fn} {C : Code} {l : List (Nat × Fn)} (hl : AllFn Tryz.prog l) (h : List (Nat × Nat)) (T : Nat → Tbl (RD F.rs × MD F.ps)) (hf : Tryz.prog.funcs[f]? = some fn) (hb : fn.body = some C)
(h1 : (fn.name == "runtime.NumGoroutine") = false := by kernel_rfl) (h2 : Nat.ble F.ps.length fn.ntmps = true := by kernel_rfl)
(h3 : ∀ k, owedF (tab.env (lk l) (hintL h)) fn F.ps F.rs k true (T k) = owedF (tab.env (lk l) (hintL h)) fn F.ps F.rs k false (T k) := by intro k; kernel_rfl) (h4 : ∀ k x, F.sem k x = evalF (tab.env (lk l) (hintL h)) fn F.ps F.rs k (T k) x := by intro k x; kernel_rfl) : FnOK Tryz.prog f F :=
evalF_ok (envOK_of tabOK _ _ (allFn_lk hl)) mix hf hb h1 h2 h3 h4
def Xx (A : Type) : Type := A → A
abbrev O (f : Nat) (F : Fn) : Prop := FnOK Tryz.prog f F
theorem Om {f : Nat} {F : Fn} {l : List (Nat × Fn)} (h : O f F) (t : AllFn Tryz.prog l) : AllFn Tryz.prog ((f, F) :: l) := ⟨h, t⟩
theorem Oz : AllFn Tryz.prog [] := trivial
abbrev On {A : Type} : Nat → Tbl A := fun _ => .nil
abbrev pI : PT := .val ⟨false, .int .i64, false⟩
abbrev rI : RT := .val ⟨false, .int .i64, true⟩
abbrev rB : RT := .val ⟨false, .bool, true⟩
def K11 {A0 A1 A2 A3 A4 A5 A6 A7 A8 A9 A10 Z R : Type} (f : A0 → A1 → A2 → A3 → A4 → A5 → A6 → A7 → A8 → A9 → A10 → R) (x : A0 × A1 × A2 × A3 × A4 × A5 × A6 × A7 × A8 × A9 × A10 × Z) : R := f x.1 x.2.1 x.2.2.1 x.2.2.2.1 x.2.2.2.2.1 x.2.2.2.2.2.1 x.2.2.2.2.2.2.1 x.2.2.2.2.2.2.2.1 x.2.2.2.2.2.2.2.2.1 x.2.2.2.2.2.2.2.2.2.1 x.2.2.2.2.2.2.2.2.2.2.1
def K14 {A0 A1 A2 A3 A4 A5 A6 A7 A8 A9 A10 A11 A12 A13 Z R : Type} (f : A0 → A1 → A2 → A3 → A4 → A5 → A6 → A7 → A8 → A9 → A10 → A11 → A12 → A13 → R) (x : A0 × A1 × A2 × A3 × A4 × A5 × A6 × A7 × A8 × A9 × A10 × A11 × A12 × A13 × Z) : R := f x.1 x.2.1 x.2.2.1 x.2.2.2.1 x.2.2.2.2.1 x.2.2.2.2.2.1 x.2.2.2.2.2.2.1 x.2.2.2.2.2.2.2.1 x.2.2.2.2.2.2.2.2.1 x.2.2.2.2.2.2.2.2.2.1 x.2.2.2.2.2.2.2.2.2.2.1 x.2.2.2.2.2.2.2.2.2.2.2.1 x.2.2.2.2.2.2.2.2.2.2.2.2.1 x.2.2.2.2.2.2.2.2.2.2.2.2.2.1
def K30 {A0 A1 A2 A3 A4 A5 A6 A7 A8 A9 A10 A11 A12 A13 A14 A15 A16 A17 A18 A19 A20 A21 A22 A23 A24 A25 A26 A27 A28 A29 Z R : Type} (f : A0 → A1 → A2 → A3 → A4 → A5 → A6 → A7 → A8 → A9 → A10 → A11 → A12 → A13 → A14 → A15 → A16 → A17 → A18 → A19 → A20 → A21 → A22 → A23 → A24 → A25 → A26 → A27 → A28 → A29 → R) (x : A0 × A1 × A2 × A3 × A4 × A5 × A6 × A7 × A8 × A9 × A10 × A11 × A12 × A13 × A14 × A15 × A16 × A17 × A18 × A19 × A20 × A21 × A22 × A23 × A24 × A25 × A26 × A27 × A28 × A29 × Z) : R := f x.1 x.2.1 x.2.2.1 x.2.2.2.1 x.2.2.2.2.1 x.2.2.2.2.2.1 x.2.2.2.2.2.2.1 x.2.2.2.2.2.2.2.1 x.2.2.2.2.2.2.2.2.1 x.2.2.2.2.2.2.2.2.2.1 x.2.2.2.2.2.2.2.2.2.2.1 x.2.2.2.2.2.2.2.2.2.2.2.1 x.2.2.2.2.2.2.2.2.2.2.2.2.1 x.2.2.2.2.2.2.2.2.2.2.2.2.2.1 x.2.2.2.2.2.2.2.2.2.2.2.2.2.2.1 x.2.2.2.2.2.2.2.2.2.2.2.2.2.2.2.1 x.2.2.2.2.2.2.2.2.2.2.2.2.2.2.2.2.1 x.2.2.2.2.2.2.2.2.2.2.2.2.2.2.2.2.2.1 x.2.2.2.2.2.2.2.2.2.2.2.2.2.2.2.2.2.2.1 x.2.2.2.2.2.2.2.2.2.2.2.2.2.2.2.2.2.2.2.1 x.2.2.2.2.2.2.2.2.2.2.2.2.2.2.2.2.2.2.2.2.1 x.2.2.2.2.2.2.2.2.2.2.2.2.2.2.2.2.2.2.2.2.2.1 x.2.2.2.2.2.2.2.2.2.2.2.2.2.2.2.2.2.2.2.2.2.2.1 x.2.2.2.2.2.2.2.2.2.2.2.2.2.2.2.2.2.2.2.2.2.2.2.1 x.2.2.2.2.2.2.2.2.2.2.2.2.2.2.2.2.2.2.2.2.2.2.2.2.1 x.2.2.2.2.2.2.2.2.2.2.2.2.2.2.2.2.2.2.2.2.2.2.2.2.2.1 x.2.2.2.2.2.2.2.2.2.2.2.2.2.2.2.2.2.2.2.2.2.2.2.2.2.2.1 x.2.2.2.2.2.2.2.2.2.2.2.2.2.2.2.2.2.2.2.2.2.2.2.2.2.2.2.1 x.2.2.2.2.2.2.2.2.2.2.2.2.2.2.2.2.2.2.2.2.2.2.2.2.2.2.2.2.1 x.2.2.2.2.2.2.2.2.2.2.2.2.2.2.2.2.2.2.2.2.2.2.2.2.2.2.2.2.2.1
structure Iso (T R F : Type) where
 un : F → T → R
 cu : (T → R) → F
def iL {A T R F : Type} (s : Iso T R F) : Iso (A × T) R (A → F) := ⟨fun f x => s.un (f x.1) x.2, fun g a => s.cu fun t => g (a, t)⟩
def iU {T R F : Type} (s : Iso T R F) : Iso (Unit × T) R F := ⟨fun f x => s.un f x.2, fun g => s.cu fun t => g ((), t)⟩
def iE {R : Type} : Iso Unit R R := ⟨fun f _ => f, fun g => g ()⟩
def iZ {A R : Type} : Iso A R (A → R) := ⟨fun f => f, fun g => g⟩
def iN {S T R F G : Type} (a : Iso S F G) (b : Iso T R F) : Iso (S × T) R G := ⟨fun f x => b.un (a.un f x.1) x.2, fun g => a.cu fun x => b.cu fun t => g (x, t)⟩
def iV {T R F : Type} (s : Iso T R F) (f : F → F) (g : T → R) : T → R := s.un (f (s.cu g))
def S13 (k : Nat) (a : Int × Y0_0 × (Int × Int) × Int × Int × Int) : Option (((Int × (Int × Y0_0 × (Int × Int) × Int × Int × Int) × Int × Int) × Unit) × Unit) :=
 some (((1, a, 0, 0), ()), ())
def F13 : Fn := ⟨[.val ⟨true, (.pair (.int .i64) (.pair Y0_1 (.pair Y0_16 (.pair (.int .i64) Y0_56)))), false⟩], [.val ⟨true, (.pair (.int .i64) (.pair (.pair (.int .i64) (.pair Y0_1 (.pair Y0_16 (.pair (.int .i64) Y0_56)))) Y0_16)), false⟩], fun k x => S13 k x.1⟩
theorem ok13 : O 13 F13 := okF Oz [] On Tryz.func13 rfl
def S87 (k : Nat) (a : Int) : Option ((Y0_26 × Unit) × Unit) :=
 mk (mn (mx a 0) 64) (mn (mx a 0) 64) 8 <|
 mk (mn (mx a 0) 64) (mn (mx a 0) 64) 1 <|
 some (((List.replicate (mn (mx a 0) 64).toNat (0 : Int), List.replicate (mn (mx a 0) 64).toNat (false : Bool)), ()), ())
def F87 : Fn := ⟨[pI], [u0_14], fun k x => S87 k x.1⟩
theorem ok87 : O 87 F87 := okF Oz [] On Tryz.func87 rfl
def S55 (k : Nat) : Option Y0_45 :=
 (S87 k 12).bind fun q0 =>
 mk 12 12 128 <|
 some (((q0.1.1, List.replicate 12 ((0, (0, 0), (0, 0), ([], []), (0, []), 0) : Int × (Int × Int) × (Int × Int) × ((List Int) × List Int) × (Int × List (Int × Int)) × Int)), ()), ())
def F55 : Fn := ⟨[], [u0_15], fun k x => S55 k ⟩
theorem ok55 : O 55 F55 := okF (Om ok87 Oz) [] On Tryz.func55 rfl
def S56 (k : Nat) (a : Int) : Option ((Y0_26 × Unit) × Unit) :=
 mk (mn (mx a 0) 65536) (mn (mx a 0) 65536) 8 <|
 mk (mn (mx a 0) 65536) (mn (mx a 0) 65536) 1 <|
 some (((List.replicate (mn (mx a 0) 65536).toNat (0 : Int), List.replicate (mn (mx a 0) 65536).toNat (false : Bool)), ()), ())
def F56 : Fn := ⟨[pI], [u0_14], fun k x => S56 k x.1⟩
theorem ok56 : O 56 F56 := okF Oz [] On Tryz.func56 rfl
def S31 (k : Nat) (a : Int) : Option ((Y0_8 × Bool × Unit) × Unit) :=
 (bif decide (a < 1) then
  some (((0, 0, [], [], false, false, false, [], (([], []), []), [], []), false, ()), ())
 else
  (bif decide (a > 4611686018427387904) then
   some (((0, 0, [], [], false, false, false, [], (([], []), []), [], []), false, ()), ())
  else
   (S55 k).bind fun q0 =>
   (S56 k 0).bind fun q1 =>
   some (((0, a, [], [], false, false, false, [], q0.1.1, q1.1.1), true, ()), ())))
def F31 : Fn := ⟨[pI], [u0_16, rB], fun k x => S31 k x.1⟩
theorem ok31 : O 31 F31 := okF (Om ok55 <| Om ok56 Oz) [] On Tryz.func31 rfl
def S110 (k : Nat) (a : Int) : Option Y0_15 :=
 (bif decide (a ≥ 0) then
  some ((decide (a < 8), ()), ())
 else
  some ((false, ()), ()))
def F110 : Fn := ⟨[pI], [rB], fun k x => S110 k x.1⟩
theorem ok110 : O 110 F110 := okF Oz [] On Tryz.func110 rfl
def S111 (k : Nat) (a b c : Int) : Option Y0_15 :=
 (bif decide (a ≥ b) then
  some ((decide (a ≤ c), ()), ())
 else
  some ((false, ()), ()))
def F111 : Fn := ⟨[pI, pI, pI], [rB], fun k (a, b, c, _) => S111 k a b c⟩
theorem ok111 : O 111 F111 := okF Oz [] On Tryz.func111 rfl
def S64 (k : Nat) (a : Int × Int × Int × Int) : Option Y0_15 :=
 (bif a.1 == 0 then
  (bif a.2.1 == 0 then
   (bif a.2.2.1 == 0 then
    some ((a.2.2.2 == 0, ()), ())
   else
    some ((false, ()), ()))
  else
   some ((false, ()), ()))
 else
  (bif a.1 == 11 then
   (bif a.2.1 == 0 then
    (bif a.2.2.1 == 0 then
     some ((a.2.2.2 == 0, ()), ())
    else
     some ((false, ()), ()))
   else
    some ((false, ()), ()))
  else
   (bif a.1 == 1 then
    (S110 k a.2.1).bind fun q0 =>
    (bif q0.1.1 then
     (bif a.2.2.1 == 0 then
      (S111 k a.2.2.2 (-2147483648) 2147483647).bind fun q1 =>
      some ((q1.1.1, ()), ())
     else
      some ((false, ()), ()))
    else
     some ((false, ()), ()))
   else
    (bif a.1 == 2 then
     (S110 k a.2.1).bind fun q2 =>
     (bif q2.1.1 then
      (S110 k a.2.2.1).bind fun q3 =>
      (bif q3.1.1 then
       some ((a.2.2.2 == 0, ()), ())
      else
       some ((false, ()), ()))
     else
      some ((false, ()), ()))
    else
     (bif a.1 == 3 then
      (S110 k a.2.1).bind fun q4 =>
      (bif q4.1.1 then
       (S110 k a.2.2.1).bind fun q5 =>
       (bif q5.1.1 then
        some ((a.2.2.2 == 0, ()), ())
       else
        some ((false, ()), ()))
      else
       some ((false, ()), ()))
     else
      (bif a.1 == 4 then
       (S110 k a.2.1).bind fun q6 =>
       (bif q6.1.1 then
        (S110 k a.2.2.1).bind fun q7 =>
        (bif q7.1.1 then
         some ((a.2.2.2 == 0, ()), ())
        else
         some ((false, ()), ()))
       else
        some ((false, ()), ()))
      else
       (bif a.1 == 5 then
        (S110 k a.2.1).bind fun q8 =>
        (bif q8.1.1 then
         (bif a.2.2.1 == 0 then
          (S111 k a.2.2.2 (-63) 63).bind fun q9 =>
          some ((q9.1.1, ()), ())
         else
          some ((false, ()), ()))
        else
         some ((false, ()), ()))
       else
        (bif a.1 == 6 then
         (S110 k a.2.1).bind fun q10 =>
         (bif q10.1.1 then
          (bif a.2.2.1 == 0 then
           (S111 k a.2.2.2 1 64).bind fun q11 =>
           some ((q11.1.1, ()), ())
          else
           some ((false, ()), ()))
         else
          some ((false, ()), ()))
        else
         (bif a.1 == 7 then
          (S110 k a.2.1).bind fun q12 =>
          (bif q12.1.1 then
           (bif a.2.2.1 == 0 then
            (S111 k a.2.2.2 1 24).bind fun q13 =>
            some ((q13.1.1, ()), ())
           else
            some ((false, ()), ()))
          else
           some ((false, ()), ()))
         else
          (bif a.1 == 8 then
           (bif a.2.1 == 0 then
            (S111 k a.2.2.1 1 24).bind fun q14 =>
            (bif q14.1.1 then
             (S111 k a.2.2.2 1 20).bind fun q15 =>
             some ((q15.1.1, ()), ())
            else
             some ((false, ()), ()))
           else
            some ((false, ()), ()))
          else
           (bif a.1 == 9 then
            (S111 k a.2.1 0 3).bind fun q16 =>
            (bif q16.1.1 then
             (bif a.2.2.1 == 0 then
              some ((a.2.2.2 == 0, ()), ())
             else
              some ((false, ()), ()))
            else
             some ((false, ()), ()))
           else
            (bif a.1 == 10 then
             (S111 k a.2.1 0 3).bind fun q17 =>
             (bif q17.1.1 then
              (bif a.2.2.1 == 0 then
               some ((a.2.2.2 == 0, ()), ())
              else
               some ((false, ()), ()))
             else
              some ((false, ()), ()))
            else
             some ((false, ()), ())))))))))))))
def F64 : Fn := ⟨[u0_17], [rB], fun k x => S64 k x.1⟩
theorem ok64 : O 64 F64 := okF (Om ok110 <| Om ok111 Oz) [] On Tryz.func64 rfl
def S63 (k : Nat) (a : Int × Int × Int × Int) : Option Y0_15 :=
 (S64 k a).bind fun q0 =>
 some ((!q0.1.1, ()), ())
def F63 : Fn := ⟨[u0_17], [rB], fun k x => S63 k x.1⟩
theorem ok63 : O 63 F63 := okF (Om ok64 Oz) [] On Tryz.func63 rfl
abbrev c65_L2 : Cut := ⟨[0, 1, 7, 8], [.cell Y0_25, .clo 63 [], cI, cI], [], 19, []⟩
def l65_2 (k : Nat) (g2 : (List Y0_7) → Int → Int → Option Y0_11) (a : List Y0_7) (b c : Int) : Option Y0_11 :=
 (bif decide (c < b) then
  ix a c <|
  (S63 k (rd a c (0, 0, 0, 0))).bind fun q0 =>
  (bif q0.1.1 then
   some ((c, ()), ())
  else
   g2 a b (IntKind.i64.wrap (c + 1)))
 else
  some (((-1), ()), ()))
def b65_2 (k : Nat) : Xx (Y0_64) := iV (iU (iL (iU (iL (iL iE))))) (l65_2 k)
def L65_2 (k a : Nat) (b : List Y0_7) (c e : Int) : Option Y0_11 := iter c65_L2 (b65_2 k) a ((), b, (), c, e, ())
theorem L65_2_s (k a b c e) : L65_2 k (a + 1) b c e = l65_2 k (L65_2 k a) b c e := iter_succ _ _ _ _
def S65 (k : Nat) (a : List Y0_7) : Option Y0_11 :=
 L65_2 k k a (a.length : Int) 0
def F65 : Fn := ⟨[u0_5, .pv (.clo 63 [])], [rI], fun k x => S65 k x.1⟩
theorem ok65 : O 65 F65 := okF (Om ok63 Oz) [] (fun k => (.loop 2 c65_L2 (b65_2 k) (fun g => .nil) .nil)) Tryz.func65 rfl
def S62 (k : Nat) (a : List Y0_7) : Option Y0_15 :=
 (S65 k a).bind fun q0 =>
 some ((decide (q0.1.1 ≥ 0), ()), ())
def F62 : Fn := ⟨[u0_5, .pv (.clo 63 [])], [rB], fun k x => S62 k x.1⟩
theorem ok62 : O 62 F62 := okF (Om ok65 Oz) [] On Tryz.func62 rfl
def S66 (k : Nat) (a : Int × Int × Int × Int) : Option Y0_15 :=
 some ((a.1 == 0, ()), ())
def F66 : Fn := ⟨[u0_17], [rB], fun k x => S66 k x.1⟩
theorem ok66 : O 66 F66 := okF Oz [] On Tryz.func66 rfl
abbrev c65a_L2 : Cut := ⟨[0, 1, 7, 8], [.cell Y0_25, .clo 66 [], cI, cI], [], 19, []⟩
def l65a_2 (k : Nat) (g2 : (List Y0_7) → Int → Int → Option Y0_11) (a : List Y0_7) (b c : Int) : Option Y0_11 :=
 (bif decide (c < b) then
  ix a c <|
  (S66 k (rd a c (0, 0, 0, 0))).bind fun q0 =>
  (bif q0.1.1 then
   some ((c, ()), ())
  else
   g2 a b (IntKind.i64.wrap (c + 1)))
 else
  some (((-1), ()), ()))
def b65a_2 (k : Nat) : Xx (Y0_64) := iV (iU (iL (iU (iL (iL iE))))) (l65a_2 k)
def L65a_2 (k a : Nat) (b : List Y0_7) (c e : Int) : Option Y0_11 := iter c65a_L2 (b65a_2 k) a ((), b, (), c, e, ())
theorem L65a_2_s (k a b c e) : L65a_2 k (a + 1) b c e = l65a_2 k (L65a_2 k a) b c e := iter_succ _ _ _ _
def S65a (k : Nat) (a : List Y0_7) : Option Y0_11 :=
 L65a_2 k k a (a.length : Int) 0
def F65a : Fn := ⟨[u0_5, .pv (.clo 66 [])], [rI], fun k x => S65a k x.1⟩
theorem ok65a : O 65 F65a := okF (Om ok66 Oz) [] (fun k => (.loop 2 c65a_L2 (b65a_2 k) (fun g => .nil) .nil)) Tryz.func65 rfl
abbrev c112_L2 : Cut := ⟨[2, 5, 6, 7], [.own 192 Y0_17, .cell Y0_25, cI, cI], [], 42, []⟩
def l112_2 (k : Nat) (g2 : Y0_52 → (List Y0_7) → Int → Int → Option ((Y0_52 × Unit) × Unit)) (a : List Y0_13) (b : List Y0_7) (c e : Int) : Option ((Y0_52 × Unit) × Unit) :=
 (bif decide (e < c) then
  ix b e <|
  (bif (rd b e (0, 0, 0, 0)).1 == 8 then
   ap a ([(IntKind.i64.wrap (e + 1), IntKind.i64.wrap (e + (rd b e (0, 0, 0, 0)).2.2.1), e, true)] : List Y0_13) 32 fun r0 =>
   g2 r0 b c (IntKind.i64.wrap (e + 1))
  else
   (bif (rd b e (0, 0, 0, 0)).1 == 7 then
    ap a ([(IntKind.i64.wrap (e + 1), IntKind.i64.wrap (e + (rd b e (0, 0, 0, 0)).2.2.2), e, false)] : List Y0_13) 32 fun r1 =>
    g2 r1 b c (IntKind.i64.wrap (e + 1))
   else
    g2 a b c (IntKind.i64.wrap (e + 1))))
 else
  some ((a, ()), ()))
def b112_2 (k : Nat) : Xx (((Unit) × Y0_52 × (List Y0_7) × Int × Int × Unit) → Option ((Y0_52 × Unit) × Unit)) := iV (iU (iL (iL (iL (iL iE))))) (l112_2 k)
def L112_2 (k a : Nat) (b : List Y0_13) (c : List Y0_7) (e f : Int) : Option ((Y0_52 × Unit) × Unit) := iter c112_L2 (b112_2 k) a ((), b, c, e, f, ())
theorem L112_2_s (k a b c e f) : L112_2 k (a + 1) b c e f = l112_2 k (L112_2 k a) b c e f := iter_succ _ _ _ _
def S112 (k : Nat) (a : List Y0_7) : Option ((Y0_52 × Unit) × Unit) :=
 L112_2 k k ([] : List Y0_13) a (a.length : Int) 0
def F112 : Fn := ⟨[u0_5], [.val ⟨false, (.sl 192 Y0_17), true⟩], fun k x => S112 k x.1⟩
theorem ok112 : O 112 F112 := okF Oz [(2, 2)] (fun k => (.loop 2 c112_L2 (b112_2 k) (fun g => .nil) .nil)) Tryz.func112 rfl
def S113 (k : Nat) (a : Int × Int × Int × Bool) (b : Int) : Option Y0_15 :=
 (bif decide (b ≥ a.1) then
  some ((decide (b ≤ a.2.1), ()), ())
 else
  some ((false, ()), ()))
def F113 : Fn := ⟨[u0_8, pI], [rB], fun k x => S113 k x.1 x.2.1⟩
theorem ok113 : O 113 F113 := okF Oz [] On Tryz.func113 rfl
def S114 (k : Nat) (a b : Int × Int × Int × Bool) : Option Y0_15 :=
 (S113 k b a.1).bind fun q0 =>
 (bif q0.1.1 then
  (S113 k b a.2.1).bind fun q1 =>
  some ((q1.1.1, ()), ())
 else
  some ((false, ()), ()))
def F114 : Fn := ⟨[u0_8, u0_8], [rB], fun k x => S114 k x.1 x.2.1⟩
theorem ok114 : O 114 F114 := okF (Om ok113 Oz) [] On Tryz.func114 rfl
def S115 (k : Nat) (a b : Int × Int × Int × Bool) : Option Y0_15 :=
 (bif decide (a.2.1 < b.1) then
  some ((true, ()), ())
 else
  some ((decide (b.2.1 < a.1), ()), ()))
def F115 : Fn := ⟨[u0_8, u0_8], [rB], fun k x => S115 k x.1 x.2.1⟩
theorem ok115 : O 115 F115 := okF Oz [] On Tryz.func115 rfl
def S116 (k : Nat) (a : Int) : Option Y0_15 :=
 some ((decide (a > 2), ()), ())
def F116 : Fn := ⟨[pI], [rB], fun k x => S116 k x.1⟩
theorem ok116 : O 116 F116 := okF Oz [] On Tryz.func116 rfl
abbrev c118_L2 : Cut := ⟨[0, 1, 7, 8], [.cell Y0_18, .clo 116 [], cI, cI], [], 19, []⟩
def l118_2 (k : Nat) (g2 : (List Int) → Int → Int → Option Y0_11) (a : List Int) (b c : Int) : Option Y0_11 :=
 (bif decide (c < b) then
  ix a c <|
  (S116 k (rd a c 0)).bind fun q0 =>
  (bif q0.1.1 then
   some ((c, ()), ())
  else
   g2 a b (IntKind.i64.wrap (c + 1)))
 else
  some (((-1), ()), ()))
def b118_2 (k : Nat) : Xx (((Unit) × (List Int) × Unit × Int × Int × Unit) → Option Y0_11) := iV (iU (iL (iU (iL (iL iE))))) (l118_2 k)
def L118_2 (k a : Nat) (b : List Int) (c e : Int) : Option Y0_11 := iter c118_L2 (b118_2 k) a ((), b, (), c, e, ())
theorem L118_2_s (k a b c e) : L118_2 k (a + 1) b c e = l118_2 k (L118_2 k a) b c e := iter_succ _ _ _ _
def S118 (k : Nat) (a : List Int) : Option Y0_11 :=
 L118_2 k k a (a.length : Int) 0
def F118 : Fn := ⟨[u0_6, .pv (.clo 116 [])], [rI], fun k x => S118 k x.1⟩
theorem ok118 : O 118 F118 := okF (Om ok116 Oz) [] (fun k => (.loop 2 c118_L2 (b118_2 k) (fun g => .nil) .nil)) Tryz.func118 rfl
def S70 (k : Nat) (a : List Int) : Option Y0_15 :=
 (S118 k a).bind fun q0 =>
 some ((decide (q0.1.1 ≥ 0), ()), ())
def F70 : Fn := ⟨[u0_6, .pv (.clo 116 [])], [rB], fun k x => S70 k x.1⟩
theorem ok70 : O 70 F70 := okF (Om ok118 Oz) [] On Tryz.func70 rfl
abbrev c67_L15 : Cut := ⟨[0, 3, 4, 6, 9, 15, 16, 17], [.cell Y0_25, .cell (.sl 192 Y0_17), .own 3 (.int .i64), .box 192 [cI, cI, cI, .cell .bool], cI, .cell (.sl 192 Y0_17), cI, cI], [], 84, []⟩
def l67_15 (k : Nat) (g4 : Y0_22) (g15 : (List Y0_7) → Y0_52 → (List Int) → Int → Int → Int → Bool → Int → Y0_52 → Int → Int → Option Y0_15) (a : List Y0_7) (b : List Y0_13) (c : List Int) (e f h : Int) (i : Bool) (l : Int) (m : List Y0_13) (n o : Int) : Option Y0_15 :=
 (bif i then
  (bif decide (l ≤ f) then
   ix c l <|
   ix c l <|
   g15 a b (upd c l (IntKind.i64.wrap ((rd c l 0) + 1))) e f h i (IntKind.i64.wrap (l + 1)) m n o
  else
   g4 a b c m n (IntKind.i64.wrap (o + 1)))
 else
  g4 a b c m n (IntKind.i64.wrap (o + 1)))
def b67_15 (k : Nat) (g4 : Y0_22) : Xx (((Unit) × (List Y0_7) × Y0_52 × (List Int) × Y0_61 × Int × Y0_52 × Int × Int × Unit) → Option Y0_15) := iV (iU (iL (iL (iL (iN (iL (iL (iL (iL iE)))) (iL (iL (iL (iL iE))))))))) (l67_15 k g4)
def L67_15 (k : Nat) (g4 : Y0_22) (a : Nat) (b : List Y0_7) (c : List Y0_13) (e : List Int) (f h i : Int) (l : Bool) (m : Int) (n : List Y0_13) (o p : Int) : Option Y0_15 := iter c67_L15 (b67_15 k g4) a ((), b, c, e, (f, h, i, l, ()), m, n, o, p, ())
theorem L67_15_s (k g4 a b c e f h i l m n o p) : L67_15 k g4 (a + 1) b c e f h i l m n o p = l67_15 k g4 (L67_15 k g4 a) b c e f h i l m n o p := iter_succ _ _ _ _
abbrev c67_L9 : Cut := ⟨[0, 3, 4, 6, 15, 16, 17, 27, 28, 29], [.cell Y0_25, .cell (.sl 192 Y0_17), .own 3 (.int .i64), .box 192 [cI, cI, cI, .cell .bool], .cell (.sl 192 Y0_17), cI, cI, .cell (.sl 192 Y0_17), cI, cI], [], 84, []⟩
def l67_9 (k : Nat) (g4 : Y0_22) (g9 : (List Y0_7) → Y0_52 → (List Int) → Int → Int → Int → Bool → Y0_52 → Int → Int → Y0_52 → Int → Int → Option Y0_15) (a : List Y0_7) (b : List Y0_13) (c : List Int) (e f h : Int) (i : Bool) (l : List Y0_13) (m n : Int) (o : List Y0_13) (p s : Int) : Option Y0_15 :=
 (bif decide (s < p) then
  ix o s <|
  (S113 k (rd o s (0, 0, 0, false)) h).bind fun q1 =>
  (bif q1.1.1 then
   (S114 k (e, f, h, i) (rd o s (0, 0, 0, false))).bind fun q2 =>
   (bif !q2.1.1 then
    some ((false, ()), ())
   else
    (S115 k (e, f, h, i) (rd o s (0, 0, 0, false))).bind fun q3 =>
    (bif !q3.1.1 then
     (S114 k (e, f, h, i) (rd o s (0, 0, 0, false))).bind fun q4 =>
     (bif !q4.1.1 then
      (S114 k (rd o s (0, 0, 0, false)) (e, f, h, i)).bind fun q5 =>
      (bif !q5.1.1 then
       some ((false, ()), ())
      else
       g9 a b c e f h i l m n o p (IntKind.i64.wrap (s + 1)))
     else
      g9 a b c e f h i l m n o p (IntKind.i64.wrap (s + 1)))
    else
     g9 a b c e f h i l m n o p (IntKind.i64.wrap (s + 1))))
  else
   (S115 k (e, f, h, i) (rd o s (0, 0, 0, false))).bind fun q6 =>
   (bif !q6.1.1 then
    (S114 k (e, f, h, i) (rd o s (0, 0, 0, false))).bind fun q7 =>
    (bif !q7.1.1 then
     (S114 k (rd o s (0, 0, 0, false)) (e, f, h, i)).bind fun q8 =>
     (bif !q8.1.1 then
      some ((false, ()), ())
     else
      g9 a b c e f h i l m n o p (IntKind.i64.wrap (s + 1)))
    else
     g9 a b c e f h i l m n o p (IntKind.i64.wrap (s + 1)))
   else
    g9 a b c e f h i l m n o p (IntKind.i64.wrap (s + 1))))
 else
  L67_15 k g4 k a b c e f h i e l m n)
def b67_9 (k : Nat) (g4 : Y0_22) : Xx (((Unit) × (List Y0_7) × Y0_52 × (List Int) × Y0_61 × Y0_52 × Int × Int × Y0_52 × Int × Int × Unit) → Option Y0_15) := iV (iU (iL (iL (iL (iN (iL (iL (iL (iL iE)))) (iL (iL (iL (iL (iL (iL iE))))))))))) (l67_9 k g4)
def L67_9 (k : Nat) (g4 : Y0_22) (a : Nat) (b : List Y0_7) (c : List Y0_13) (e : List Int) (f h i : Int) (l : Bool) (m : List Y0_13) (n o : Int) (p : List Y0_13) (s t : Int) : Option Y0_15 := iter c67_L9 (b67_9 k g4) a ((), b, c, e, (f, h, i, l, ()), m, n, o, p, s, t, ())
theorem L67_9_s (k g4 a b c e f h i l m n o p s t) : L67_9 k g4 (a + 1) b c e f h i l m n o p s t = l67_9 k g4 (L67_9 k g4 a) b c e f h i l m n o p s t := iter_succ _ _ _ _
abbrev c67_L4 : Cut := ⟨[0, 3, 4, 15, 16, 17], [.cell Y0_25, .cell (.sl 192 Y0_17), .own 3 (.int .i64), .cell (.sl 192 Y0_17), cI, cI], [], 84, []⟩
def l67_4 (k : Nat) (g4 : Y0_22) (a : List Y0_7) (b : List Y0_13) (c : List Int) (e : List Y0_13) (f h : Int) : Option Y0_15 :=
 (bif decide (h < f) then
  ix e h <|
  (bif decide ((rd e h (0, 0, 0, false)).2.1 ≥ (IntKind.i64.wrap ((a.length : Int) - 1))) then
   some ((false, ()), ())
  else
   L67_9 k g4 k a b c (rd e h (0, 0, 0, false)).1 (rd e h (0, 0, 0, false)).2.1 (rd e h (0, 0, 0, false)).2.2.1 (rd e h (0, 0, 0, false)).2.2.2 e f h b (b.length : Int) 0)
 else
  (S70 k c).bind fun q9 =>
  some ((!q9.1.1, ()), ()))
def b67_4 (k : Nat) : Xx (((Unit) × (List Y0_7) × Y0_52 × (List Int) × Y0_52 × Int × Int × Unit) → Option Y0_15) := iV (iU (iL (iL (iL (iL (iL (iL iE))))))) (l67_4 k)
def L67_4 (k a : Nat) (b : List Y0_7) (c : List Y0_13) (e : List Int) (f : List Y0_13) (h i : Int) : Option Y0_15 := iter c67_L4 (b67_4 k) a ((), b, c, e, f, h, i, ())
theorem L67_4_s (k a b c e f h i) : L67_4 k (a + 1) b c e f h i = l67_4 k (L67_4 k a) b c e f h i := iter_succ _ _ _ _
def S67 (k : Nat) (a : List Y0_7) : Option Y0_15 :=
 (S112 k a).bind fun q0 =>
 mk (a.length : Int) (a.length : Int) 8 <|
 L67_4 k k a q0.1.1 (List.replicate (a.length : Int).toNat (0 : Int)) q0.1.1 (q0.1.1.length : Int) 0
def F67 : Fn := ⟨[u0_5], [rB], fun k x => S67 k x.1⟩
theorem ok67 : O 67 F67 := okF (Om ok70 <| Om ok112 <| Om ok113 <| Om ok114 <| Om ok115 Oz) [] (fun k => (.loop 4 c67_L4 (b67_4 k) (fun g => (fun (g4 : Y0_22) => (.loop 15 c67_L15 (b67_15 k g4) (fun g => .nil) (.loop 9 c67_L9 (b67_9 k g4) (fun g => .nil) .nil))) (fun l_1 all around t15 t16 t17 => g ((), l_1, all, around, t15, t16, t17, ()))) .nil)) Tryz.func67 rfl
abbrev c69_L6 : Cut := ⟨[0, 3, 4, 5, 11, 12, 13, 19, 20], [.cell Y0_25, .own 144 Y0_65, cI, .box 192 [cI, cI, cI, .cell .bool], .own 192 Y0_17, cI, cI, cI, cI], [], 38, []⟩
def l69_6 (k : Nat) (g3 : Y0_33) (g6 : (List Y0_7) → Y0_27 → Int → Int → Int → Int → Bool → Y0_52 → Int → Int → Int → Int → Option Y0_57) (a : List Y0_7) (b : List Y0_69) (c e f h : Int) (i : Bool) (l : List Y0_13) (m n o p : Int) : Option Y0_57 :=
 (bif decide (p < o) then
  (bif decide (c < 24) then
   (S113 k (e, f, h, i) p).bind fun q1 =>
   (bif q1.1.1 then
    ix b p <|
    ax 24 c <|
    g6 a (upd b p (aset (α := Bool) 24 (rd b p (prep (α := Bool) 24 false)) c true)) c e f h i l m n o (IntKind.i64.wrap (p + 1))
   else
    g6 a b c e f h i l m n o (IntKind.i64.wrap (p + 1)))
  else
   g6 a b c e f h i l m n o (IntKind.i64.wrap (p + 1)))
 else
  g3 a b l m (IntKind.i64.wrap (n + 1)))
def b69_6 (k : Nat) (g3 : Y0_33) : Xx (((Unit) × (List Y0_7) × Y0_27 × Int × Y0_61 × Y0_52 × Int × Int × Int × Int × Unit) → Option Y0_57) := iV (iU (iL (iL (iL (iN (iL (iL (iL (iL iE)))) (iL (iL (iL (iL (iL iE)))))))))) (l69_6 k g3)
def L69_6 (k : Nat) (g3 : Y0_33) (a : Nat) (b : List Y0_7) (c : List Y0_69) (e f h i : Int) (l : Bool) (m : List Y0_13) (n o p s : Int) : Option Y0_57 := iter c69_L6 (b69_6 k g3) a ((), b, c, e, (f, h, i, l, ()), m, n, o, p, s, ())
theorem L69_6_s (k g3 a b c e f h i l m n o p s) : L69_6 k g3 (a + 1) b c e f h i l m n o p s = l69_6 k g3 (L69_6 k g3 a) b c e f h i l m n o p s := iter_succ _ _ _ _
abbrev c69_L3 : Cut := ⟨[0, 3, 11, 12, 13], [.cell Y0_25, .own 144 Y0_65, .own 192 Y0_17, cI, cI], [], 38, []⟩
def l69_3 (k : Nat) (g3 : Y0_33) (a : List Y0_7) (b : List Y0_69) (c : List Y0_13) (e f : Int) : Option Y0_57 :=
 (bif decide (f < e) then
  ix c f <|
  L69_6 k g3 k a b f (rd c f (0, 0, 0, false)).1 (rd c f (0, 0, 0, false)).2.1 (rd c f (0, 0, 0, false)).2.2.1 (rd c f (0, 0, 0, false)).2.2.2 c e f (a.length : Int) 0
 else
  some ((b, ()), ()))
def b69_3 (k : Nat) : Xx (((Unit) × (List Y0_7) × Y0_27 × Y0_52 × Int × Int × Unit) → Option Y0_57) := iV (iU (iL (iL (iL (iL (iL iE)))))) (l69_3 k)
def L69_3 (k a : Nat) (b : List Y0_7) (c : List Y0_69) (e : List Y0_13) (f h : Int) : Option Y0_57 := iter c69_L3 (b69_3 k) a ((), b, c, e, f, h, ())
theorem L69_3_s (k a b c e f h) : L69_3 k (a + 1) b c e f h = l69_3 k (L69_3 k a) b c e f h := iter_succ _ _ _ _
def S69 (k : Nat) (a : List Y0_7) : Option Y0_57 :=
 mk (a.length : Int) (a.length : Int) 24 <|
 (S112 k a).bind fun q0 =>
 L69_3 k k a (List.replicate (a.length : Int).toNat (prep (α := Bool) 24 false : PN Bool 24)) q0.1.1 (q0.1.1.length : Int) 0
def F69 : Fn := ⟨[u0_5], [.val ⟨false, (.sl 144 Y0_65), true⟩], fun k x => S69 k x.1⟩
theorem ok69 : O 69 F69 := okF (Om ok112 <| Om ok113 Oz) [] (fun k => (.loop 3 c69_L3 (b69_3 k) (fun g => (fun (g3 : Y0_33) => (.loop 6 c69_L6 (b69_6 k g3) (fun g => .nil) .nil)) (fun l_1 out t11 t12 t13 => g ((), l_1, out, t11, t12, t13, ()))) .nil)) Tryz.func69 rfl
def S117 (k : Nat) (a : Int) (b : List Y0_7) (c : Int) : Option Y0_15 :=
 ix b a <|
 ix b c <|
 some (((rd b a (0, 0, 0, 0)).2.1 == (rd b c (0, 0, 0, 0)).2.1, ()), ())
def F117 : Fn := ⟨[pI, .pv (.ref Y0_25), u0_20], [rB], fun k (a, b, c, _) => S117 k a b c⟩
theorem ok117 : O 117 F117 := okF Oz [] On Tryz.func117 rfl
abbrev c118a_L2 : Cut := ⟨[0, 1, 7, 8], [.cell Y0_18, .clo 117 [.ref Y0_25, .ref (.int .i64)], cI, cI], [], 19, []⟩
def l118a_2 (k : Nat) (g2 : (List Int) → (List Y0_7) → Int → Int → Int → Option Y0_11) (a : List Int) (b : List Y0_7) (c e f : Int) : Option Y0_11 :=
 (bif decide (f < e) then
  ix a f <|
  (S117 k (rd a f 0) b c).bind fun q0 =>
  (bif q0.1.1 then
   some ((f, ()), ())
  else
   g2 a b c e (IntKind.i64.wrap (f + 1)))
 else
  some (((-1), ()), ()))
def b118a_2 (k : Nat) : Xx (((Unit) × (List Int) × ((List Y0_7) × Int × Unit) × Int × Int × Unit) → Option Y0_11) := iV (iU (iL (iN (iL (iL iE)) (iL (iL iE))))) (l118a_2 k)
def L118a_2 (k a : Nat) (b : List Int) (c : List Y0_7) (e f h : Int) : Option Y0_11 := iter c118a_L2 (b118a_2 k) a ((), b, (c, e, ()), f, h, ())
theorem L118a_2_s (k a b c e f h) : L118a_2 k (a + 1) b c e f h = l118a_2 k (L118a_2 k a) b c e f h := iter_succ _ _ _ _
def S118a (k : Nat) (a : List Int) (b : List Y0_7) (c : Int) : Option Y0_11 :=
 L118a_2 k k a b c (a.length : Int) 0
def F118a : Fn := ⟨[u0_6, u0_1], [rI], fun k (a, (b, c, _), _) => S118a k a b c⟩
theorem ok118a : O 118 F118a := okF (Om ok117 Oz) [] (fun k => (.loop 2 c118a_L2 (b118a_2 k) (fun g => .nil) .nil)) Tryz.func118 rfl
def S70a (k : Nat) (a : List Int) (b : List Y0_7) (c : Int) : Option Y0_15 :=
 (S118a k a b c).bind fun q0 =>
 some ((decide (q0.1.1 ≥ 0), ()), ())
def F70a : Fn := ⟨[u0_6, u0_1], [rB], fun k (a, (b, c, _), _) => S70a k a b c⟩
theorem ok70a : O 70 F70a := okF (Om ok118a Oz) [] On Tryz.func70 rfl
abbrev c68_J8 : Cut := ⟨[1, 4, 5, 6, 7, 8, 9, 20, 21, 22], [.box 28 [.cell Y0_25], .own 3 (.int .i64), .own 3 (.int .i64), .mp 194 true Y0_65 false (.int .i64), .cell (.sl 144 Y0_65), .box 3 [cI], .box 144 [.cell .bool, .cell .bool, .cell .bool, .cell .bool, .cell .bool, .cell .bool, .cell .bool, .cell .bool, .cell .bool, .cell .bool, .cell .bool, .cell .bool, .cell .bool, .cell .bool, .cell .bool, .cell .bool, .cell .bool, .cell .bool, .cell .bool, .cell .bool, .cell .bool, .cell .bool, .cell .bool, .cell .bool], .cell (.sl 144 Y0_65), cI, cI], [], 110, []⟩
def j68_8 (k : Nat) (g3 : Y0_36) (a : List Y0_7) (b c : List Int) (e : List (Y0_69 × Int)) (f : List Y0_69) (h : Int) (x i l m n o p s t u v w y z A B C D G H I J K M : Bool) (N : List Y0_69) (O P : Int) : Option Y0_59 :=
 ix a h <|
 (bif (rd a h (0, 0, 0, 0)).1 == 9 then
  (bif decide ((c.length : Int) ≥ 2) then
   some (([], false, ()), ())
  else
   (S70a k c a h).bind fun q1 =>
   (bif q1.1.1 then
    some (([], false, ()), ())
   else
    ap c ([h] : List Int) 8 fun r2 =>
    g3 a b r2 e f N O (IntKind.i64.wrap (P + 1))))
 else
  (bif (rd a h (0, 0, 0, 0)).1 == 10 then
   (bif decide ((IntKind.i64.wrap ((c.length : Int) - 1)) < 0) then
    some (([], false, ()), ())
   else
    ix c (IntKind.i64.wrap ((c.length : Int) - 1)) <|
    ix a (rd c (IntKind.i64.wrap ((c.length : Int) - 1)) 0) <|
    ix a h <|
    (bif (rd a (rd c (IntKind.i64.wrap ((c.length : Int) - 1)) 0) (0, 0, 0, 0)).2.1 != (rd a h (0, 0, 0, 0)).2.1 then
     some (([], false, ()), ())
    else
     ix c (IntKind.i64.wrap ((c.length : Int) - 1)) <|
     ix f (rd c (IntKind.i64.wrap ((c.length : Int) - 1)) 0) <|
     (bif (mget Y0_65 (.int .i64) (rd f (rd c (IntKind.i64.wrap ((c.length : Int) - 1)) 0) (prep (α := Bool) 24 false)) e 0) != (mget Y0_65 (.int .i64) (x, i, l, m, n, o, p, s, t, u, v, w, y, z, A, B, C, D, G, H, I, J, K, M) e 0) then
      some (([], false, ()), ())
     else
      ix c (IntKind.i64.wrap ((c.length : Int) - 1)) <|
      ix b (rd c (IntKind.i64.wrap ((c.length : Int) - 1)) 0) <|
      sx c 0 (IntKind.i64.wrap ((c.length : Int) - 1)) <|
      g3 a (upd b (rd c (IntKind.i64.wrap ((c.length : Int) - 1)) 0) h) (c.take (IntKind.i64.wrap ((c.length : Int) - 1)).toNat) e f N O (IntKind.i64.wrap (P + 1)))))
  else
   g3 a b c e f N O (IntKind.i64.wrap (P + 1))))
abbrev c68_L3 : Cut := ⟨[1, 4, 5, 6, 7, 20, 21, 22], [.box 28 [.cell Y0_25], .own 3 (.int .i64), .own 3 (.int .i64), .mp 194 true Y0_65 false (.int .i64), .cell (.sl 144 Y0_65), .cell (.sl 144 Y0_65), cI, cI], [], 110, []⟩
def l68_3 (k : Nat) (g3 : Y0_36) (a : List Y0_7) (b c : List Int) (e : List (Y0_69 × Int)) (f h : List Y0_69) (i l : Int) : Option Y0_59 :=
 (bif decide (l < i) then
  ix h l <|
  (bif !(mhas Y0_65 (.int .i64) (rd h l (prep (α := Bool) 24 false)) e) then
   j68_8 k g3 a b c (updD Y0_65 (.int .i64) (rd h l (prep (α := Bool) 24 false)) l e) f l (rd h l (prep (α := Bool) 24 false)).1 (rd h l (prep (α := Bool) 24 false)).2.1 (rd h l (prep (α := Bool) 24 false)).2.2.1 (rd h l (prep (α := Bool) 24 false)).2.2.2.1 (rd h l (prep (α := Bool) 24 false)).2.2.2.2.1 (rd h l (prep (α := Bool) 24 false)).2.2.2.2.2.1 (rd h l (prep (α := Bool) 24 false)).2.2.2.2.2.2.1 (rd h l (prep (α := Bool) 24 false)).2.2.2.2.2.2.2.1 (rd h l (prep (α := Bool) 24 false)).2.2.2.2.2.2.2.2.1 (rd h l (prep (α := Bool) 24 false)).2.2.2.2.2.2.2.2.2.1 (rd h l (prep (α := Bool) 24 false)).2.2.2.2.2.2.2.2.2.2.1 (rd h l (prep (α := Bool) 24 false)).2.2.2.2.2.2.2.2.2.2.2.1 (rd h l (prep (α := Bool) 24 false)).2.2.2.2.2.2.2.2.2.2.2.2.1 (rd h l (prep (α := Bool) 24 false)).2.2.2.2.2.2.2.2.2.2.2.2.2.1 (rd h l (prep (α := Bool) 24 false)).2.2.2.2.2.2.2.2.2.2.2.2.2.2.1 (rd h l (prep (α := Bool) 24 false)).2.2.2.2.2.2.2.2.2.2.2.2.2.2.2.1 (rd h l (prep (α := Bool) 24 false)).2.2.2.2.2.2.2.2.2.2.2.2.2.2.2.2.1 (rd h l (prep (α := Bool) 24 false)).2.2.2.2.2.2.2.2.2.2.2.2.2.2.2.2.2.1 (rd h l (prep (α := Bool) 24 false)).2.2.2.2.2.2.2.2.2.2.2.2.2.2.2.2.2.2.1 (rd h l (prep (α := Bool) 24 false)).2.2.2.2.2.2.2.2.2.2.2.2.2.2.2.2.2.2.2.1 (rd h l (prep (α := Bool) 24 false)).2.2.2.2.2.2.2.2.2.2.2.2.2.2.2.2.2.2.2.2.1 (rd h l (prep (α := Bool) 24 false)).2.2.2.2.2.2.2.2.2.2.2.2.2.2.2.2.2.2.2.2.2.1 (rd h l (prep (α := Bool) 24 false)).2.2.2.2.2.2.2.2.2.2.2.2.2.2.2.2.2.2.2.2.2.2.1 (rd h l (prep (α := Bool) 24 false)).2.2.2.2.2.2.2.2.2.2.2.2.2.2.2.2.2.2.2.2.2.2.2 h i l
  else
   j68_8 k g3 a b c e f l (rd h l (prep (α := Bool) 24 false)).1 (rd h l (prep (α := Bool) 24 false)).2.1 (rd h l (prep (α := Bool) 24 false)).2.2.1 (rd h l (prep (α := Bool) 24 false)).2.2.2.1 (rd h l (prep (α := Bool) 24 false)).2.2.2.2.1 (rd h l (prep (α := Bool) 24 false)).2.2.2.2.2.1 (rd h l (prep (α := Bool) 24 false)).2.2.2.2.2.2.1 (rd h l (prep (α := Bool) 24 false)).2.2.2.2.2.2.2.1 (rd h l (prep (α := Bool) 24 false)).2.2.2.2.2.2.2.2.1 (rd h l (prep (α := Bool) 24 false)).2.2.2.2.2.2.2.2.2.1 (rd h l (prep (α := Bool) 24 false)).2.2.2.2.2.2.2.2.2.2.1 (rd h l (prep (α := Bool) 24 false)).2.2.2.2.2.2.2.2.2.2.2.1 (rd h l (prep (α := Bool) 24 false)).2.2.2.2.2.2.2.2.2.2.2.2.1 (rd h l (prep (α := Bool) 24 false)).2.2.2.2.2.2.2.2.2.2.2.2.2.1 (rd h l (prep (α := Bool) 24 false)).2.2.2.2.2.2.2.2.2.2.2.2.2.2.1 (rd h l (prep (α := Bool) 24 false)).2.2.2.2.2.2.2.2.2.2.2.2.2.2.2.1 (rd h l (prep (α := Bool) 24 false)).2.2.2.2.2.2.2.2.2.2.2.2.2.2.2.2.1 (rd h l (prep (α := Bool) 24 false)).2.2.2.2.2.2.2.2.2.2.2.2.2.2.2.2.2.1 (rd h l (prep (α := Bool) 24 false)).2.2.2.2.2.2.2.2.2.2.2.2.2.2.2.2.2.2.1 (rd h l (prep (α := Bool) 24 false)).2.2.2.2.2.2.2.2.2.2.2.2.2.2.2.2.2.2.2.1 (rd h l (prep (α := Bool) 24 false)).2.2.2.2.2.2.2.2.2.2.2.2.2.2.2.2.2.2.2.2.1 (rd h l (prep (α := Bool) 24 false)).2.2.2.2.2.2.2.2.2.2.2.2.2.2.2.2.2.2.2.2.2.1 (rd h l (prep (α := Bool) 24 false)).2.2.2.2.2.2.2.2.2.2.2.2.2.2.2.2.2.2.2.2.2.2.1 (rd h l (prep (α := Bool) 24 false)).2.2.2.2.2.2.2.2.2.2.2.2.2.2.2.2.2.2.2.2.2.2.2 h i l)
 else
  (bif decide ((c.length : Int) > 0) then
   some (([], false, ()), ())
  else
   some ((b, true, ()), ())))
def b68_3 (k : Nat) : Xx (((Unit) × ((List Y0_7) × Unit) × (List Int) × (List Int) × (List (Y0_69 × Int)) × Y0_27 × Y0_27 × Int × Int × Unit) → Option Y0_59) := iV (iU (iN (iL iE) (iL (iL (iL (iL (iL (iL (iL iE))))))))) (l68_3 k)
def L68_3 (k a : Nat) (b : List Y0_7) (c e : List Int) (f : List (Y0_69 × Int)) (h i : List Y0_69) (l m : Int) : Option Y0_59 := iter c68_L3 (b68_3 k) a ((), (b, ()), c, e, f, h, i, l, m, ())
theorem L68_3_s (k a b c e f h i l m) : L68_3 k (a + 1) b c e f h i l m = l68_3 k (L68_3 k a) b c e f h i l m := iter_succ _ _ _ _
def S68 (k : Nat) (a : List Y0_7) : Option Y0_59 :=
 mk (a.length : Int) (a.length : Int) 8 <|
 (S69 k a).bind fun q0 =>
 L68_3 k k a (List.replicate (a.length : Int).toNat (0 : Int)) ([] : List Int) ([] : List (Y0_69 × Int)) q0.1.1 q0.1.1 (q0.1.1.length : Int) 0
def F68 : Fn := ⟨[u0_5], [u0_9, rB], fun k x => S68 k x.1⟩
theorem ok68 : O 68 F68 := okF (Om ok69 <| Om ok70a Oz) [(104, 1)] (fun k => (.loop 3 c68_L3 (b68_3 k) (fun g => (fun (g3 : Y0_36) => (.join 8 c68_J8 (fun (_, (a, _), b, c, e, f, (h, _), (i, l, m, n, o, p, s, t, u, v, w, y, z, A, B, C, D, G, H, I, J, K, M, N, _), O, P, Q, _) => j68_8 k g3 a b c e f h i l m n o p s t u v w y z A B C D G H I J K M N O P Q) .nil)) (fun l_1 out open_ same all t20 t21 t22 => g ((), (l_1, ()), out, open_, same, all, t20, t21, t22, ()))) .nil)) Tryz.func68 rfl
def S71 (k : Nat) (a b : Int) : Option Y0_15 :=
 some ((decide (a > b), ()), ())
def F71 : Fn := ⟨[pI, u0_20], [rB], fun k x => S71 k x.1 x.2.1⟩
theorem ok71 : O 71 F71 := okF Oz [] On Tryz.func71 rfl
abbrev c118b_L2 : Cut := ⟨[0, 1, 7, 8], [.cell Y0_18, .clo 71 [.ref (.int .i64)], cI, cI], [], 19, []⟩
def l118b_2 (k : Nat) (g2 : (List Int) → Int → Int → Int → Option Y0_11) (a : List Int) (b c e : Int) : Option Y0_11 :=
 (bif decide (e < c) then
  ix a e <|
  (S71 k (rd a e 0) b).bind fun q0 =>
  (bif q0.1.1 then
   some ((e, ()), ())
  else
   g2 a b c (IntKind.i64.wrap (e + 1)))
 else
  some (((-1), ()), ()))
def b118b_2 (k : Nat) : Xx (((Unit) × (List Int) × Y0_54 × Int × Int × Unit) → Option Y0_11) := iV (iU (iL (iN (iL iE) (iL (iL iE))))) (l118b_2 k)
def L118b_2 (k a : Nat) (b : List Int) (c e f : Int) : Option Y0_11 := iter c118b_L2 (b118b_2 k) a ((), b, (c, ()), e, f, ())
theorem L118b_2_s (k a b c e f) : L118b_2 k (a + 1) b c e f = l118b_2 k (L118b_2 k a) b c e f := iter_succ _ _ _ _
def S118b (k : Nat) (a : List Int) (b : Int) : Option Y0_11 :=
 L118b_2 k k a b (a.length : Int) 0
def F118b : Fn := ⟨[u0_6, .pv (.clo 71 [.ref (.int .i64)])], [rI], fun k x => S118b k x.1 x.2.1.1⟩
theorem ok118b : O 118 F118b := okF (Om ok71 Oz) [] (fun k => (.loop 2 c118b_L2 (b118b_2 k) (fun g => .nil) .nil)) Tryz.func118 rfl
def S70b (k : Nat) (a : List Int) (b : Int) : Option Y0_15 :=
 (S118b k a b).bind fun q0 =>
 some ((decide (q0.1.1 ≥ 0), ()), ())
def F70b : Fn := ⟨[u0_6, .pv (.clo 71 [.ref (.int .i64)])], [rB], fun k x => S70b k x.1 x.2.1.1⟩
theorem ok70b : O 70 F70b := okF (Om ok118b Oz) [] On Tryz.func70 rfl
abbrev c34_L11 : Cut := ⟨[4, 6, 42, 43, 44], [.own 3 (.int .i64), .own 144 Y0_65, .cell Y0_25, cI, cI], [], 66, []⟩
def l34_11 (k : Nat) (g11 : (List Int) → Y0_27 → (List Y0_7) → Int → Int → Option Y0_15) (a : List Int) (b : List Y0_69) (c : List Y0_7) (e f : Int) : Option Y0_15 :=
 (bif decide (f < e) then
  ix c f <|
  (bif (rd c f (0, 0, 0, 0)).1 != 11 then
   g11 a b c e (IntKind.i64.wrap (f + 1))
  else
   ix b f <|
   (bif !(beqD Y0_65 (rd b f (prep (α := Bool) 24 false)) (false, false, false, false, false, false, false, false, false, false, false, false, false, false, false, false, false, false, false, false, false, false, false, false)) then
    some ((false, ()), ())
   else
    sx a 0 f <|
    (S70b k (sub a 0 f) f).bind fun q5 =>
    (bif q5.1.1 then
     some ((false, ()), ())
    else
     g11 a b c e (IntKind.i64.wrap (f + 1)))))
 else
  some ((true, ()), ()))
def b34_11 (k : Nat) : Xx (((Unit) × (List Int) × Y0_27 × (List Y0_7) × Int × Int × Unit) → Option Y0_15) := iV (iU (iL (iL (iL (iL (iL iE)))))) (l34_11 k)
def L34_11 (k a : Nat) (b : List Int) (c : List Y0_69) (e : List Y0_7) (f h : Int) : Option Y0_15 := iter c34_L11 (b34_11 k) a ((), b, c, e, f, h, ())
theorem L34_11_s (k a b c e f h) : L34_11 k (a + 1) b c e f h = l34_11 k (L34_11 k a) b c e f h := iter_succ _ _ _ _
def S34 (k : Nat) (a : List Y0_7) : Option Y0_15 :=
 (bif decide ((a.length : Int) < 1) then
  some ((false, ()), ())
 else
  (bif decide ((a.length : Int) > 24) then
   some ((false, ()), ())
  else
   (S62 k a).bind fun q0 =>
   (bif q0.1.1 then
    some ((false, ()), ())
   else
    (S65a k a).bind fun q1 =>
    (bif q1.1.1 != (IntKind.i64.wrap ((a.length : Int) - 1)) then
     some ((false, ()), ())
    else
     (S67 k a).bind fun q2 =>
     (bif !q2.1.1 then
      some ((false, ()), ())
     else
      (S68 k a).bind fun q3 =>
      (bif !q3.1.2.1 then
       some ((false, ()), ())
      else
       (S69 k a).bind fun q4 =>
       L34_11 k k q3.1.1 q4.1.1 a (a.length : Int) 0))))))
def F34 : Fn := ⟨[u0_5], [rB], fun k x => S34 k x.1⟩
theorem ok34 : O 34 F34 := okF (Om ok62 <| Om ok65a <| Om ok67 <| Om ok68 <| Om ok69 <| Om ok70b Oz) [] (fun k => (.loop 11 c34_L11 (b34_11 k) (fun g => .nil) .nil)) Tryz.func34 rfl
def S35 (k : Nat) (a : List Y0_7) : Option Y0_15 :=
 (bif (a.length : Int) == 0 then
  some ((true, ()), ())
 else
  (S34 k a).bind fun q0 =>
  some ((q0.1.1, ()), ()))
def F35 : Fn := ⟨[u0_5], [rB], fun k x => S35 k x.1⟩
theorem ok35 : O 35 F35 := okF (Om ok34 Oz) [] On Tryz.func35 rfl
def S72 (k : Nat) (a : Int × Int × Int × Int) : Option Y0_15 :=
 some ((a.1 == 9, ()), ())
def F72 : Fn := ⟨[u0_17], [rB], fun k x => S72 k x.1⟩
theorem ok72 : O 72 F72 := okF Oz [] On Tryz.func72 rfl
abbrev c65b_L2 : Cut := ⟨[0, 1, 7, 8], [.cell Y0_25, .clo 72 [], cI, cI], [], 19, []⟩
def l65b_2 (k : Nat) (g2 : (List Y0_7) → Int → Int → Option Y0_11) (a : List Y0_7) (b c : Int) : Option Y0_11 :=
 (bif decide (c < b) then
  ix a c <|
  (S72 k (rd a c (0, 0, 0, 0))).bind fun q0 =>
  (bif q0.1.1 then
   some ((c, ()), ())
  else
   g2 a b (IntKind.i64.wrap (c + 1)))
 else
  some (((-1), ()), ()))
def b65b_2 (k : Nat) : Xx (Y0_64) := iV (iU (iL (iU (iL (iL iE))))) (l65b_2 k)
def L65b_2 (k a : Nat) (b : List Y0_7) (c e : Int) : Option Y0_11 := iter c65b_L2 (b65b_2 k) a ((), b, (), c, e, ())
theorem L65b_2_s (k a b c e) : L65b_2 k (a + 1) b c e = l65b_2 k (L65b_2 k a) b c e := iter_succ _ _ _ _
def S65b (k : Nat) (a : List Y0_7) : Option Y0_11 :=
 L65b_2 k k a (a.length : Int) 0
def F65b : Fn := ⟨[u0_5, .pv (.clo 72 [])], [rI], fun k x => S65b k x.1⟩
theorem ok65b : O 65 F65b := okF (Om ok72 Oz) [] (fun k => (.loop 2 c65b_L2 (b65b_2 k) (fun g => .nil) .nil)) Tryz.func65 rfl
def S62a (k : Nat) (a : List Y0_7) : Option Y0_15 :=
 (S65b k a).bind fun q0 =>
 some ((decide (q0.1.1 ≥ 0), ()), ())
def F62a : Fn := ⟨[u0_5, .pv (.clo 72 [])], [rB], fun k x => S62a k x.1⟩
theorem ok62a : O 62 F62a := okF (Om ok65b Oz) [] On Tryz.func62 rfl
def S36 (k : Nat) (a : List Y0_7) : Option Y0_15 :=
 (S62a k a).bind fun q0 =>
 some ((q0.1.1, ()), ())
def F36 : Fn := ⟨[u0_5], [rB], fun k x => S36 k x.1⟩
theorem ok36 : O 36 F36 := okF (Om ok62a Oz) [] On Tryz.func36 rfl
def S82 (k : Nat) (a : Int) : Option Y0_11 :=
 (bif decide (a < 0) then
  some ((IntKind.u64.wrap (0 - (IntKind.u64.wrap a)), ()), ())
 else
  some ((IntKind.u64.wrap a, ()), ()))
def F82 : Fn := ⟨[pI], [.val ⟨false, (.int .u64), true⟩], fun k x => S82 k x.1⟩
theorem ok82 : O 82 F82 := okF Oz [] On Tryz.func82 rfl
def S81 (k : Nat) (a b : Int) : Option Y0_34 :=
 (bif decide ((ishr .u64 a 32) > 0) then
  (bif decide ((ishr .u64 b 32) > 0) then
   some ((0, false, ()), ())
  else
   (bif decide ((ishr .u64 (ior .u64 (IntKind.u64.wrap ((ishr .u64 a 32) * (IntKind.u64.wrap (IntKind.u32.wrap b)))) (IntKind.u64.wrap ((IntKind.u64.wrap (IntKind.u32.wrap a)) * (ishr .u64 b 32)))) 32) > 0) then
    some ((0, false, ()), ())
   else
    some ((IntKind.u64.wrap ((IntKind.u64.wrap ((IntKind.u64.wrap (IntKind.u32.wrap a)) * (IntKind.u64.wrap (IntKind.u32.wrap b)))) + (ishl .u64 (ior .u64 (IntKind.u64.wrap ((ishr .u64 a 32) * (IntKind.u64.wrap (IntKind.u32.wrap b)))) (IntKind.u64.wrap ((IntKind.u64.wrap (IntKind.u32.wrap a)) * (ishr .u64 b 32)))) 32)), decide ((IntKind.u64.wrap ((IntKind.u64.wrap ((IntKind.u64.wrap (IntKind.u32.wrap a)) * (IntKind.u64.wrap (IntKind.u32.wrap b)))) + (ishl .u64 (ior .u64 (IntKind.u64.wrap ((ishr .u64 a 32) * (IntKind.u64.wrap (IntKind.u32.wrap b)))) (IntKind.u64.wrap ((IntKind.u64.wrap (IntKind.u32.wrap a)) * (ishr .u64 b 32)))) 32))) ≥ (IntKind.u64.wrap ((IntKind.u64.wrap (IntKind.u32.wrap a)) * (IntKind.u64.wrap (IntKind.u32.wrap b))))), ()), ())))
 else
  (bif decide ((ishr .u64 (ior .u64 (IntKind.u64.wrap ((ishr .u64 a 32) * (IntKind.u64.wrap (IntKind.u32.wrap b)))) (IntKind.u64.wrap ((IntKind.u64.wrap (IntKind.u32.wrap a)) * (ishr .u64 b 32)))) 32) > 0) then
   some ((0, false, ()), ())
  else
   some ((IntKind.u64.wrap ((IntKind.u64.wrap ((IntKind.u64.wrap (IntKind.u32.wrap a)) * (IntKind.u64.wrap (IntKind.u32.wrap b)))) + (ishl .u64 (ior .u64 (IntKind.u64.wrap ((ishr .u64 a 32) * (IntKind.u64.wrap (IntKind.u32.wrap b)))) (IntKind.u64.wrap ((IntKind.u64.wrap (IntKind.u32.wrap a)) * (ishr .u64 b 32)))) 32)), decide ((IntKind.u64.wrap ((IntKind.u64.wrap ((IntKind.u64.wrap (IntKind.u32.wrap a)) * (IntKind.u64.wrap (IntKind.u32.wrap b)))) + (ishl .u64 (ior .u64 (IntKind.u64.wrap ((ishr .u64 a 32) * (IntKind.u64.wrap (IntKind.u32.wrap b)))) (IntKind.u64.wrap ((IntKind.u64.wrap (IntKind.u32.wrap a)) * (ishr .u64 b 32)))) 32))) ≥ (IntKind.u64.wrap ((IntKind.u64.wrap (IntKind.u32.wrap a)) * (IntKind.u64.wrap (IntKind.u32.wrap b))))), ()), ())))
def F81 : Fn := ⟨[.val ⟨false, (.int .u64), false⟩, .val ⟨false, (.int .u64), false⟩], [.val ⟨false, (.int .u64), true⟩, rB], fun k x => S81 k x.1 x.2.1⟩
theorem ok81 : O 81 F81 := okF Oz [] On Tryz.func81 rfl
def S83 (k : Nat) (a : Bool) : Option Y0_34 :=
 (bif a then
  some (((-9223372036854775808), false, ()), ())
 else
  some ((9223372036854775807, false, ()), ()))
def F83 : Fn := ⟨[.val ⟨false, .bool, false⟩], [rI, rB], fun k x => S83 k x.1⟩
theorem ok83 : O 83 F83 := okF Oz [] On Tryz.func83 rfl
abbrev c51_J5 : Cut := ⟨[0, 1, 6, 7], [cI, cI, .cell .bool, .cell (.int .u64)], [], 45, []⟩
def j51_5 (k : Nat) (a b : Int) (c : Bool) (e : Int) : Option Y0_34 :=
 (S82 k a).bind fun q0 =>
 (S82 k b).bind fun q1 =>
 (S81 k q0.1.1 q1.1.1).bind fun q2 =>
 (bif !q2.1.2.1 then
  (S83 k c).bind fun q3 =>
  some (q3.1, ())
 else
  (bif decide (q2.1.1 > e) then
   (S83 k c).bind fun q4 =>
   some (q4.1, ())
  else
   (bif c then
    some ((IntKind.i64.wrap (IntKind.u64.wrap (0 - q2.1.1)), true, ()), ())
   else
    some ((IntKind.i64.wrap q2.1.1, true, ()), ()))))
def S51 (k : Nat) (a b : Int) : Option Y0_34 :=
 (bif !((decide (a < 0)) == (decide (b < 0))) then
  j51_5 k a b (!((decide (a < 0)) == (decide (b < 0)))) 9223372036854775808
 else
  j51_5 k a b (!((decide (a < 0)) == (decide (b < 0)))) 9223372036854775807)
def F51 : Fn := ⟨[pI, pI], [rI, rB], fun k x => S51 k x.1 x.2.1⟩
theorem ok51 : O 51 F51 := okF (Om ok81 <| Om ok82 <| Om ok83 Oz) [] (fun k => (.join 5 c51_J5 (fun (_, a, b, c, e, _) => j51_5 k a b c e) .nil)) Tryz.func51 rfl
abbrev c78_L12 : Cut := ⟨[3, 5, 6, 7, 20, 21, 22], [.own 2 (.int .i64), cI, .box 46 [cI, cI, cI, cI], cI, .cell Y0_25, cI, cI], [], 55, []⟩
def l78_12 (k : Nat) (g8 : Y0_48) (g12 : (List Int) → Int → Int → Int → Int → Int → Int → (List Y0_7) → Int → Int → Option Y0_19) (a : List Int) (b x c e f h : Int) (i : List Y0_7) (l m : Int) : Option Y0_19 :=
 (bif decide (h ≤ (IntKind.i64.wrap (b + e))) then
  ix a h <|
  (S51 k (rd a h 0) f).bind fun q0 =>
  ix a h <|
  g12 (upd a h q0.1.1) b x c e f (IntKind.i64.wrap (h + 1)) i l m
 else
  g8 a i l (IntKind.i64.wrap (m + 1)))
def b78_12 (k : Nat) (g8 : Y0_48) : Xx (((Unit) × (List Int) × Int × (Int × Int × Int × Int × Unit) × Int × (List Y0_7) × Int × Int × Unit) → Option Y0_19) := iV (iU (iL (iL (iN (iL (iL (iL (iL iE)))) (iL (iL (iL (iL iE)))))))) (l78_12 k g8)
def L78_12 (k : Nat) (g8 : Y0_48) (a : Nat) (b : List Int) (c x e f h i : Int) (l : List Y0_7) (m n : Int) : Option Y0_19 := iter c78_L12 (b78_12 k g8) a ((), b, c, (x, e, f, h, ()), i, l, m, n, ())
theorem L78_12_s (k g8 a b c x e f h i l m n) : L78_12 k g8 (a + 1) b c x e f h i l m n = l78_12 k g8 (L78_12 k g8 a) b c x e f h i l m n := iter_succ _ _ _ _
abbrev c78_L8 : Cut := ⟨[3, 20, 21, 22], [.own 2 (.int .i64), .cell Y0_25, cI, cI], [], 55, []⟩
def l78_8 (k : Nat) (g8 : Y0_48) (a : List Int) (b : List Y0_7) (c e : Int) : Option Y0_19 :=
 (bif decide (e < c) then
  ix b e <|
  (bif (rd b e (0, 0, 0, 0)).1 != 8 then
   g8 a b c (IntKind.i64.wrap (e + 1))
  else
   L78_12 k g8 k a e (rd b e (0, 0, 0, 0)).1 (rd b e (0, 0, 0, 0)).2.1 (rd b e (0, 0, 0, 0)).2.2.1 (rd b e (0, 0, 0, 0)).2.2.2 (IntKind.i64.wrap (e + 1)) b c e)
 else
  some ((a, ()), ()))
def b78_8 (k : Nat) : Xx (((Unit) × (List Int) × (List Y0_7) × Int × Int × Unit) → Option Y0_19) := iV (iU (iL (iL (iL (iL iE))))) (l78_8 k)
def L78_8 (k a : Nat) (b : List Int) (c : List Y0_7) (e f : Int) : Option Y0_19 := iter c78_L8 (b78_8 k) a ((), b, c, e, f, ())
theorem L78_8_s (k a b c e f) : L78_8 k (a + 1) b c e f = l78_8 k (L78_8 k a) b c e f := iter_succ _ _ _ _
abbrev c78_L3 : Cut := ⟨[0, 3, 12, 13], [.cell Y0_25, .own 2 (.int .i64), cI, cI], [], 55, []⟩
def l78_3 (k : Nat) (g3 : (List Y0_7) → (List Int) → Int → Int → Option Y0_19) (a : List Y0_7) (b : List Int) (c e : Int) : Option Y0_19 :=
 (bif decide (e < c) then
  ix b e <|
  g3 a (upd b e 1) c (IntKind.i64.wrap (e + 1))
 else
  L78_8 k k b a (a.length : Int) 0)
def b78_3 (k : Nat) : Xx (((Unit) × (List Y0_7) × (List Int) × Int × Int × Unit) → Option Y0_19) := iV (iU (iL (iL (iL (iL iE))))) (l78_3 k)
def L78_3 (k a : Nat) (b : List Y0_7) (c : List Int) (e f : Int) : Option Y0_19 := iter c78_L3 (b78_3 k) a ((), b, c, e, f, ())
theorem L78_3_s (k a b c e f) : L78_3 k (a + 1) b c e f = l78_3 k (L78_3 k a) b c e f := iter_succ _ _ _ _
def S78 (k : Nat) (a : List Y0_7) : Option Y0_19 :=
 mk (a.length : Int) (a.length : Int) 8 <|
 L78_3 k k a (List.replicate (a.length : Int).toNat (0 : Int)) ((List.replicate (a.length : Int).toNat (0 : Int)).length : Int) 0
def F78 : Fn := ⟨[u0_5], [.val ⟨false, Y0_63, true⟩], fun k x => S78 k x.1⟩
theorem ok78 : O 78 F78 := okF (Om ok51 Oz) [] (fun k => (.loop 8 c78_L8 (b78_8 k) (fun g => (fun (g8 : Y0_48) => (.loop 12 c78_L12 (b78_12 k g8) (fun g => .nil) .nil)) (fun out1 t20 t21 t22 => g ((), out1, t20, t21, t22, ()))) (.loop 3 c78_L3 (b78_3 k) (fun g => .nil) .nil))) Tryz.func78 rfl
def S52 (k : Nat) (a b : Int) : Option Y0_34 :=
 (bif decide ((iand .i64 (ixor .i64 a (IntKind.i64.wrap (IntKind.u64.wrap ((IntKind.u64.wrap a) + (IntKind.u64.wrap b))))) (ixor .i64 b (IntKind.i64.wrap (IntKind.u64.wrap ((IntKind.u64.wrap a) + (IntKind.u64.wrap b)))))) < 0) then
  (S83 k (decide (a < 0))).bind fun q0 =>
  some (q0.1, ())
 else
  some ((IntKind.i64.wrap (IntKind.u64.wrap ((IntKind.u64.wrap a) + (IntKind.u64.wrap b))), true, ()), ()))
def F52 : Fn := ⟨[pI, pI], [rI, rB], fun k x => S52 k x.1 x.2.1⟩
theorem ok52 : O 52 F52 := okF (Om ok83 Oz) [] On Tryz.func52 rfl
abbrev c79_L2 : Cut := ⟨[2, 5, 6, 7], [cI, .cell Y0_63, cI, cI], [], 19, []⟩
def l79_2 (k : Nat) (g2 : Y0_46) (a : Int) (b : List Int) (c e : Int) : Option Y0_11 :=
 (bif decide (e < c) then
  ix b e <|
  (S52 k a (rd b e 0)).bind fun q0 =>
  g2 q0.1.1 b c (IntKind.i64.wrap (e + 1))
 else
  some ((a, ()), ()))
def b79_2 (k : Nat) : Xx (((Unit) × Int × (List Int) × Int × Int × Unit) → Option Y0_11) := iV (iU (iL (iL (iL (iL iE))))) (l79_2 k)
def L79_2 (k a : Nat) (b : Int) (c : List Int) (e f : Int) : Option Y0_11 := iter c79_L2 (b79_2 k) a ((), b, c, e, f, ())
theorem L79_2_s (k a b c e f) : L79_2 k (a + 1) b c e f = l79_2 k (L79_2 k a) b c e f := iter_succ _ _ _ _
def S79 (k : Nat) (a : List Int) : Option Y0_11 :=
 L79_2 k k 0 a (a.length : Int) 0
def F79 : Fn := ⟨[.val ⟨false, Y0_63, false⟩], [rI], fun k x => S79 k x.1⟩
theorem ok79 : O 79 F79 := okF (Om ok52 Oz) [] (fun k => (.loop 2 c79_L2 (b79_2 k) (fun g => .nil) .nil)) Tryz.func79 rfl
abbrev c49_L7 : Cut := ⟨[2, 4, 5, 6, 24, 25, 26], [.box 114 [cI, cI, .own 120 Y0_16], .own 2 (.int .i64), cI, .own 3 (.int .i64), .cell Y0_25, cI, cI], [], 75, []⟩
def l49_7 (k : Nat) (g7 : Int → Int → Y0_14 → (List Int) → Int → (List Int) → (List Y0_7) → Int → Int → Option Y0_42) (a b : Int) (c : Y0_31) (e : List Int) (f : Int) (h : List Int) (i : List Y0_7) (l m : Int) : Option Y0_42 :=
 (bif decide (m < l) then
  ix i m <|
  (bif (rd i m (0, 0, 0, 0)).1 == 11 then
   sx e f (IntKind.i64.wrap (m + 1)) <|
   (S79 k (sub e f (IntKind.i64.wrap (m + 1)))).bind fun q4 =>
   g7 a (mx b q4.1.1) c e (IntKind.i64.wrap (m + 1)) h i l (IntKind.i64.wrap (m + 1))
  else
   (bif (rd i m (0, 0, 0, 0)).1 == 0 then
    sx e f (IntKind.i64.wrap (m + 1)) <|
    (S79 k (sub e f (IntKind.i64.wrap (m + 1)))).bind fun q5 =>
    g7 a (mx b q5.1.1) c e (IntKind.i64.wrap (m + 1)) h i l (IntKind.i64.wrap (m + 1))
   else
    (bif (rd i m (0, 0, 0, 0)).1 == 9 then
     ix h m <|
     sx e (IntKind.i64.wrap (m + 1)) (IntKind.i64.wrap ((rd h m 0) + 1)) <|
     (S79 k (sub e (IntKind.i64.wrap (m + 1)) (IntKind.i64.wrap ((rd h m 0) + 1)))).bind fun q6 =>
     ix e m <|
     nz (rd e m 0) <|
     ap c ([((rd i m (0, 0, 0, 0)).2.1, IntKind.i64.wrap (Int.tdiv q6.1.1 (rd e m 0)))] : List (Int × Int)) 16 fun r7 =>
     g7 a b r7 e f h i l (IntKind.i64.wrap (m + 1))
    else
     g7 a b c e f h i l (IntKind.i64.wrap (m + 1)))))
 else
  some (((a, b, c), true, ()), ()))
def b49_7 (k : Nat) : Xx (((Unit) × (Int × Int × Y0_14 × Unit) × (List Int) × Int × (List Int) × (List Y0_7) × Int × Int × Unit) → Option Y0_42) := iV (iU (iN (iL (iL (iL iE))) (iL (iL (iL (iL (iL (iL iE)))))))) (l49_7 k)
def L49_7 (k a : Nat) (b c : Int) (e : Y0_31) (f : List Int) (h : Int) (i : List Int) (l : List Y0_7) (m n : Int) : Option Y0_42 := iter c49_L7 (b49_7 k) a ((), (b, c, e, ()), f, h, i, l, m, n, ())
theorem L49_7_s (k a b c e f h i l m n) : L49_7 k (a + 1) b c e f h i l m n = l49_7 k (L49_7 k a) b c e f h i l m n := iter_succ _ _ _ _
def S49 (k : Nat) (a : List Y0_7) : Option Y0_42 :=
 (S34 k a).bind fun q0 =>
 (bif !q0.1.1 then
  some (((0, 0, []), false, ()), ())
 else
  (S78 k a).bind fun q1 =>
  (S68 k a).bind fun q2 =>
  (S79 k q1.1.1).bind fun q3 =>
  L49_7 k k q3.1.1 0 ([] : List (Int × Int)) q1.1.1 0 q2.1.1 a (a.length : Int) 0)
def F49 : Fn := ⟨[u0_5], [.val ⟨true, (.pair (.int .i64) (.pair (.int .i64) (.sl 120 Y0_16))), true⟩, rB], fun k x => S49 k x.1⟩
theorem ok49 : O 49 F49 := okF (Om ok34 <| Om ok68 <| Om ok78 <| Om ok79 Oz) [(2, 2)] (fun k => (.loop 7 c49_L7 (b49_7 k) (fun g => .nil) .nil)) Tryz.func49 rfl
def S37 (k : Nat) (a : List Y0_7) : Option Y0_11 :=
 (S49 k a).bind fun q0 =>
 some ((q0.1.1.1, ()), ())
def F37 : Fn := ⟨[u0_5], [rI], fun k x => S37 k x.1⟩
theorem ok37 : O 37 F37 := okF (Om ok49 Oz) [] On Tryz.func37 rfl
def S16 (k : Nat) (a : Y0_28) : Option Y0_11 :=
 (bif decide (a.1 < 0) then
  some ((1, ()), ())
 else
  (bif decide (a.1 > 63) then
   some ((1, ()), ())
  else
   (bif decide (a.2.1 < 1) then
    some ((9, ()), ())
   else
    (bif decide (a.2.1 > 16384) then
     some ((9, ()), ())
    else
     (bif decide (a.2.2.1 < 1) then
      some ((9, ()), ())
     else
      (bif decide (a.2.2.1 > a.2.1) then
       some ((9, ()), ())
      else
       (S34 k a.2.2.2.1).bind fun q0 =>
       (bif !q0.1.1 then
        some ((2, ()), ())
       else
        (S35 k a.2.2.2.2.1).bind fun q1 =>
        (bif !q1.1.1 then
         some ((2, ()), ())
        else
         (S35 k a.2.2.2.2.2).bind fun q2 =>
         (bif !q2.1.1 then
          some ((2, ()), ())
         else
          (S36 k a.2.2.2.2.2).bind fun q3 =>
          (bif q3.1.1 then
           some ((2, ()), ())
          else
           (S37 k a.2.2.2.1).bind fun q4 =>
           (bif decide (q4.1.1 > a.2.2.1) then
            some ((10, ()), ())
           else
            (S37 k a.2.2.2.2.1).bind fun q5 =>
            (S37 k a.2.2.2.1).bind fun q6 =>
            (bif decide (q5.1.1 > q6.1.1) then
             some ((12, ()), ())
            else
             some ((0, ()), ())))))))))))))
def F16 : Fn := ⟨[u0_18], [rI], fun k x => S16 k x.1⟩
theorem ok16 : O 16 F16 := okF (Om ok34 <| Om ok35 <| Om ok36 <| Om ok37 Oz) [] On Tryz.func16 rfl
def S38 (k : Nat) (a : List Y0_7) : Option Y0_38 := cloneSem 32 46 Y0_6 k (a, ())
def F38 : Fn := ⟨clonePs 46 Y0_6, cloneRs 46 Y0_6, cloneSem 32 46 Y0_6⟩
theorem ok38 : O 38 F38 := clone_ok E0_ok mix Tryz.func38 rfl (by kernel_rfl) (by kernel_rfl) (fun k => by kernel_rfl) (fun k xs => by kernel_rfl) (fun k xs => by kernel_rfl)
def S17 (k : Nat) (a : Y0_28) : Option ((Y0_0 × Unit) × Unit) :=
 (S38 k a.2.2.2.1).bind fun q0 =>
 (S38 k a.2.2.2.2.1).bind fun q1 =>
 (S38 k a.2.2.2.2.2).bind fun q2 =>
 some (((a.1, a.2.1, a.2.2.1, q0.1.1, q1.1.1, q2.1.1), ()), ())
def F17 : Fn := ⟨[u0_18], [.val ⟨true, Y0_1, true⟩], fun k x => S17 k x.1⟩
theorem ok17 : O 17 F17 := okF (Om ok38 Oz) [] On Tryz.func17 rfl
def S19 (k : Nat) (x a : Y0_28) : Option Y0_15 :=
 some ((decide (x.1 > a.1), ()), ())
def F19 : Fn := ⟨[u0_18, .pv (.ref Y0_1)], [rB], fun k x => S19 k x.1 x.2.1⟩
theorem ok19 : O 19 F19 := okF Oz [] On Tryz.func19 rfl
abbrev c18_L2 : Cut := ⟨[0, 1, 7, 8], [.cell Y0_40, .clo 19 [.ref Y0_1], cI, cI], [], 19, []⟩
def l18_2 (k : Nat) (g2 : (List Y0_0) → Y0_0 → Int → Int → Option Y0_11) (a : List Y0_0) (b : Y0_28) (c e : Int) : Option Y0_11 :=
 (bif decide (e < c) then
  ix a e <|
  (S19 k (rd a e (0, 0, 0, [], [], [])) b).bind fun q0 =>
  (bif q0.1.1 then
   some ((e, ()), ())
  else
   g2 a b c (IntKind.i64.wrap (e + 1)))
 else
  some (((-1), ()), ()))
def b18_2 (k : Nat) : Xx (((Unit) × (List Y0_0) × (Y0_0 × Unit) × Int × Int × Unit) → Option Y0_11) := iV (iU (iL (iN (iL iE) (iL (iL iE))))) (l18_2 k)
def L18_2 (k a : Nat) (b : List Y0_0) (c : Y0_28) (e f : Int) : Option Y0_11 := iter c18_L2 (b18_2 k) a ((), b, (c, ()), e, f, ())
theorem L18_2_s (k a b c e f) : L18_2 k (a + 1) b c e f = l18_2 k (L18_2 k a) b c e f := iter_succ _ _ _ _
def S18 (k : Nat) (a : List Y0_0) (b : Y0_28) : Option Y0_11 :=
 L18_2 k k a b (a.length : Int) 0
def F18 : Fn := ⟨[u0_7, .pv (.clo 19 [.ref Y0_1])], [rI], fun k x => S18 k x.1 x.2.1.1⟩
theorem ok18 : O 18 F18 := okF (Om ok19 Oz) [] (fun k => (.loop 2 c18_L2 (b18_2 k) (fun g => .nil) .nil)) Tryz.func18 rfl
section
variable (w : World) {g n c i g2 m c2 : Nat}
theorem insF20_t : Tryz.prog.underlying 26 = some (.slice 30) ∧ Tryz.prog.underlying 3 = some (.int .i64) ∧ Tryz.prog.underlying 4 = some .bool ∧ Tryz.prog.follows .mixedOrders = true ∧ (∀ w, (Go.sizeOf 30).run Tryz.prog w = .ok 6 w) ∧ Tryz.f20.ntmps = 95 := ⟨by kernel_rfl, by kernel_rfl, by kernel_rfl, by kernel_rfl, fun w => by kernel_rfl, rfl⟩
theorem insF20_none {v u : Value} (hv : (∃ A n c, v = .slice A n c ∧ i ≤ n)) (hu : ∃ A c, u = .slice A m c) (hm : m = 0) : Calls Tryz.prog 20 #[v, .int .i64 i, u] w fun e w' => e = .returned v ∧ w' = w := by
 obtain ⟨t24, t3, t4, mixed, z36, hnt⟩ := insF20_t
 have u24 := run_underlying t24; have u3 := run_underlying t3; have u4 := run_underlying t4
 obtain ⟨A, n, c, rfl, hi⟩ := hv
 obtain ⟨A2, c2, rfl⟩ := hu
 have hi0 : (i : Int) ≤ (n : Int) := by omega
 have hz1 : (m : Int) = 0 := by omega
 cases A <;> (go_enter Tryz.func20, hnt; go_wp2 <;> (go_ret; exact ⟨rfl, rfl⟩))
theorem insF20_end {v : Value} {w' : World} {v' : Value} (hv : (∃ A c, v = .slice A n c)) (hm : 0 < m)
  (hr : ∀ ty, (Builtin.append_ #[26, 26] ty #[v, .slice (some ⟨g2, 0, none⟩) m c2]).run Tryz.prog w = .ok v' w') : Calls Tryz.prog 20 #[v, .int .i64 n, .slice (some ⟨g2, 0, none⟩) m c2] w fun e w1 => e = .returned v' ∧ w1 = w' := by
 obtain ⟨t24, t3, t4, mixed, z36, hnt⟩ := insF20_t
 have u24 := run_underlying t24; have u3 := run_underlying t3; have u4 := run_underlying t4
 have hz1 : ¬ ((m : Int) = 0) := by omega
 obtain ⟨A, c, rfl⟩ := hv
 go_enter Tryz.func20, hnt
 go_wp2_with (at_builtin; refine append_list rfl rfl _ _ rfl rfl (hr _) ?_)
 all_goals (go_ret; exact ⟨rfl, rfl⟩)
theorem insF20_shift {v' v'' : Value} {w' w'' : World} (hi : i < n) (hm : 0 < m) (hroom : n + m ≤ c) (hc63 : c ≤ 9223372036854775807)
  (hov : ∀ lb cb, (callFunc 39 #[.slice (some ⟨g2, 0, none⟩) m c2, .slice (some ⟨g, (i + m) * 6, none⟩) lb cb]).run Tryz.prog w = .ok (.value (.bool false)) w)
  (hcp1 : ∀ ty dc sc, (Builtin.copy_ #[26, 26] ty #[.slice (some ⟨g, (i + m) * 6, none⟩) (n + m - (i + m)) dc, .slice (some ⟨g, i * 6, none⟩) (n + m - i) sc]).run Tryz.prog w.drew = .ok v' w')
  (hcp2 : ∀ ty dc, (Builtin.copy_ #[26, 26] ty #[.slice (some ⟨g, i * 6, none⟩) (n + m - i) dc, .slice (some ⟨g2, 0, none⟩) m c2]).run Tryz.prog w' = .ok v'' w'') :
  Calls Tryz.prog 20 #[.slice (some ⟨g, 0, none⟩) n c, .int .i64 i, .slice (some ⟨g2, 0, none⟩) m c2] w fun e w1 => e = .returned (.slice (some ⟨g, 0, none⟩) (n + m) c) ∧ w1 = w'' := by
 obtain ⟨t24, t3, t4, mixed, z36, hnt⟩ := insF20_t
 have u24 := run_underlying t24; have u3 := run_underlying t3; have u4 := run_underlying t4
 have hz1 : ¬ ((m : Int) = 0) := by omega
 have hz2 : ¬ ((i : Int) = (n : Int)) := by omega
 have hw1 : IntKind.i64.wrap ((i : Int) + (m : Int)) = (i : Int) + (m : Int) := by rw [IntKind.wrap_i64]; omega
 have hb1 : (0 : Int) ≤ (i : Int) + (m : Int) := by omega
 have hin : i ≤ n := by omega
 have htn : ((i : Int) + (m : Int)).toNat = i + m := by omega
 have hb2 : ¬ (c = i + m) := by omega
 have hb3 : (i : Int) ≤ (n : Int) + (m : Int) := by omega
 have hb4 : ¬ (c = i) := by omega
 go_enter Tryz.func20, hnt
 go_wp2_with (simp only [hov])
 go_region_law_o (refine copy_step rfl rfl _ _ (by simp [Act.eval, Act.put]) (by simp [Act.eval, Act.put]) (hcp1 _ _ _) ?_)
 go_wp2_with (at_builtin; refine copy_list rfl rfl _ _ rfl rfl (hcp2 _ _) ?_)
 go_ret
 exact ⟨rfl, rfl⟩
theorem insF20_grow {h G : Nat} {v' v'' : Value} {w0 w' w'' : World} (hi : i < n) (hm : 0 < m) (hnc : n ≤ c) (hroom : c < n + m) (hc63 : n + m ≤ 140737488355328) (hG : n + m ≤ G) (hG63 : G ≤ 9223372036854775807)
  (hrz : ∀ ty, (Builtin.append_ #[26, 3] ty #[.slice (some ⟨g, 0, none⟩) i c, .int .i64 ((n : Int) + (m : Int) - (i : Int))]).run Tryz.prog w = .ok (.slice (some ⟨h, 0, none⟩) (n + m) G) w0)
  (hcp1 : ∀ ty dc, (Builtin.copy_ #[26, 26] ty #[.slice (some ⟨h, i * 6, none⟩) (n + m - i) dc, .slice (some ⟨g2, 0, none⟩) m c2]).run Tryz.prog w0 = .ok v' w')
  (hcp2 : ∀ ty dc sc, (Builtin.copy_ #[26, 26] ty #[.slice (some ⟨h, (i + m) * 6, none⟩) (n + m - (i + m)) dc, .slice (some ⟨g, i * 6, none⟩) (n - i) sc]).run Tryz.prog w'.drew = .ok v'' w'') :
  Calls Tryz.prog 20 #[.slice (some ⟨g, 0, none⟩) n c, .int .i64 i, .slice (some ⟨g2, 0, none⟩) m c2] w fun e w1 => e = .returned (.slice (some ⟨h, 0, none⟩) (n + m) G) ∧ w1 = w'' := by
 obtain ⟨t24, t3, t4, mixed, z36, hnt⟩ := insF20_t
 have u24 := run_underlying t24; have u3 := run_underlying t3; have u4 := run_underlying t4
 have hz1 : ¬ ((m : Int) = 0) := by omega
 have hz2 : ¬ ((i : Int) = (n : Int)) := by omega
 have hz3 : (c : Int) < (n : Int) + (m : Int) := by omega
 have hw1 : IntKind.i64.wrap ((i : Int) + (m : Int)) = (i : Int) + (m : Int) := by rw [IntKind.wrap_i64]; omega
 have hb1 : (0 : Int) ≤ (i : Int) + (m : Int) := by omega
 have hin : i ≤ n := by omega
 have htn : ((i : Int) + (m : Int)).toNat = i + m := by omega
 have hGi : ¬ (G = i) := by omega
 have hGim : ¬ (G = i + m) := by omega
 have hci : ¬ (c = i) := by omega
 have hb3 : (i : Int) ≤ (n : Int) := by omega
 go_enter Tryz.func20, hnt
 go_wp2_with (first
  | (at_builtin; refine append_list rfl rfl _ _ rfl rfl (hrz _) ?_)
  | (at_builtin; refine copy_list rfl rfl _ _ rfl rfl (hcp1 _ _) ?_))
 go_region_law_o (refine copy_step rfl rfl _ _ (by simp [Act.eval, Act.put]) (by simp [Act.eval, Act.put]) (hcp2 _ _ _) ?_)
 go_wp2
 go_ret
 exact ⟨rfl, rfl⟩
end
abbrev P20 : List PT := insPs 30 Y0_1
abbrev R20 : List RT := insRs 30 Y0_1
def S20 (k : Nat) (a : List Y0_0) (b : Int) (c : List Y0_0) : Option (((List Y0_0) × Unit) × Unit) := insSem 96 30 Y0_1 k (a, b, c, ())
def F20 : Fn := ⟨P20, R20, insSem 96 30 Y0_1⟩
def E20 : Env := tab.env (fun _ => none) (fun _ => 0)
theorem E20_ok : EnvOK Tryz.prog E20 := envOK_of tabOK _ _ (fun f F h => by cases h)
theorem ok20 : O 20 F20 := by
 obtain ⟨i0, z, a1, a2, a3, a4, a5⟩ := (E20_ok.ty 30 (Y0_1) (by kernel_rfl)).info
 have b1 : E20.byt 30 = 96 := by kernel_rfl
 have b2 : Ty.sz (Y0_1) = 6 := rfl
 rw [b1] at a3
 have hz : z.cells.size = 6 := by rw [← Array.length_toList, a5, zeroV_len, b2]
 obtain ⟨t24, t3, t4, mixed, z36, hnt⟩ := insF20_t
 refine ins_ok Tryz.func20 rfl (by kernel_rfl) ?_
 rw [b2, ← a3]
 refine ins_all (S := 26) (z := z) t24 t3 a1 a4 (by rw [a2, b2]) hz (by decide) (by rw [a3]; decide) (fun w i m v u h1 h2 h3 => insF20_none w h1 h2 h3) (fun w n g2 m c2 v v' w' h1 h2 h3 => insF20_end w h1 h2 h3) (fun w g n c i g2 m c2 v' v'' w' w'' h1 h2 h3 h4 h5 h6 hne hg hg2 => insF20_shift w h1 h2 h3 h4 (fun lb cb => ?_) h5 h6) (fun w g n c i g2 m c2 h G v' v'' w0 w' w'' h1 h2 h3 h4 h5 h6 h7 h8 h9 h10 => insF20_grow w h1 h2 h3 h4 h5 h6 h7 h8 h9 h10)
 obtain ⟨cur, q1, q2⟩ := hg
 obtain ⟨cur2, q3⟩ := hg2
 rw [run_callFunc_extern Tryz.func39 (by kernel_rfl) (by kernel_rfl) (by kernel_rfl) (e := Extern.SlicesOverlaps.overlaps #[26, 26] #[4]) (by kernel_rfl), Lib.run_overlaps_apart w 26 4 30 t24 6 z36 ⟨g2, 0, none⟩ ⟨g, (i + m) * 6, none⟩ m c2 lb cb hne 30 30 cur2.size cur.size (by simp [World.shape?, q3]) (by simp [World.shape?, q1]) q2 (Kd.frozen_row q3 _) (Kd.frozen_row q3 _)]
 rfl
abbrev c26_L2 : Cut := ⟨[0, 5, 6, 7], [.cell Y0_40, .cell Y0_40, cI, cI], [], 31, []⟩
def l26_2 (k : Nat) (g2 : (List Y0_0) → (List Y0_0) → Int → Int → Option Y0_15) (a b : List Y0_0) (c e : Int) : Option Y0_15 :=
 (bif decide (e < c) then
  ix b e <|
  (S16 k (rd b e (0, 0, 0, [], [], []))).bind fun q0 =>
  (bif q0.1.1 != 0 then
   some ((false, ()), ())
  else
   (bif decide (e > 0) then
    ix a (IntKind.i64.wrap (e - 1)) <|
    (bif decide ((rd a (IntKind.i64.wrap (e - 1)) (0, 0, 0, [], [], [])).1 ≥ (rd b e (0, 0, 0, [], [], [])).1) then
     some ((false, ()), ())
    else
     g2 a b c (IntKind.i64.wrap (e + 1)))
   else
    g2 a b c (IntKind.i64.wrap (e + 1))))
 else
  some ((true, ()), ()))
def b26_2 (k : Nat) : Xx (((Unit) × (List Y0_0) × (List Y0_0) × Int × Int × Unit) → Option Y0_15) := iV (iU (iL (iL (iL (iL iE))))) (l26_2 k)
def L26_2 (k a : Nat) (b c : List Y0_0) (e f : Int) : Option Y0_15 := iter c26_L2 (b26_2 k) a ((), b, c, e, f, ())
theorem L26_2_s (k a b c e f) : L26_2 k (a + 1) b c e f = l26_2 k (L26_2 k a) b c e f := iter_succ _ _ _ _
def S26 (k : Nat) (a : List Y0_0) : Option Y0_15 :=
 L26_2 k k a a (a.length : Int) 0
def F26 : Fn := ⟨[u0_7], [rB], fun k x => S26 k x.1⟩
theorem ok26 : O 26 F26 := okF (Om ok16 Oz) [] (fun k => (.loop 2 c26_L2 (b26_2 k) (fun g => .nil) .nil)) Tryz.func26 rfl
def S80 (k : Nat) (a : Int) : Option Y0_32 :=
 (bif decide (a < 0) then
  none
 else
  (bif decide ((IntKind.i64.wrap (a - 0)) > 0) then
   az ([] : List (Int × Int)) (IntKind.i64.wrap (a - 0)) 16 (0, 0) fun r0 =>
   sx r0 0 0 <|
   some ((r0.take 0, ()), ())
  else
   some (([], ()), ())))
def F80 : Fn := ⟨[.pv (.nil), pI], [u0_3], fun k x => S80 k x.2.1⟩
theorem ok80 : O 80 F80 := okF Oz [(25, 1)] On Tryz.func80 rfl
abbrev c50_L11 : Cut := ⟨[6, 25, 26, 27], [.own 120 Y0_16, .cell (.sl 96 (.sl 120 Y0_16)), cI, cI], [], 36, []⟩
def l50_11 (k : Nat) (g11 : Y0_14 → (List Y0_14) → Int → Int → Option Y0_32) (a : Y0_31) (b : List Y0_14) (c e : Int) : Option Y0_32 :=
 (bif decide (e < c) then
  ix b e <|
  ap a (rd b e []) 16 fun r1 =>
  g11 r1 b c (IntKind.i64.wrap (e + 1))
 else
  some ((a, ()), ()))
def b50_11 (k : Nat) : Xx (((Unit) × Y0_14 × (List Y0_14) × Int × Int × Unit) → Option Y0_32) := iV (iU (iL (iL (iL (iL iE))))) (l50_11 k)
def L50_11 (k a : Nat) (b : Y0_31) (c : List Y0_14) (e f : Int) : Option Y0_32 := iter c50_L11 (b50_11 k) a ((), b, c, e, f, ())
theorem L50_11_s (k a b c e f) : L50_11 k (a + 1) b c e f = l50_11 k (L50_11 k a) b c e f := iter_succ _ _ _ _
abbrev c50_L3 : Cut := ⟨[0, 3, 9, 10, 11], [.cell (.sl 96 (.sl 120 Y0_16)), cI, .cell (.sl 96 (.sl 120 Y0_16)), cI, cI], [], 36, []⟩
def l50_3 (k : Nat) (g3 : (List Y0_14) → Int → (List Y0_14) → Int → Int → Option Y0_32) (a : List Y0_14) (b : Int) (c : List Y0_14) (e f : Int) : Option Y0_32 :=
 (bif decide (f < e) then
  ix c f <|
  (bif decide ((IntKind.i64.wrap (b + ((rd c f []).length : Int))) < 0) then
   none
  else
   g3 a (IntKind.i64.wrap (b + ((rd c f []).length : Int))) c e (IntKind.i64.wrap (f + 1)))
 else
  (S80 k b).bind fun q0 =>
  L50_11 k k q0.1.1 a (a.length : Int) 0)
def b50_3 (k : Nat) : Xx (((Unit) × (List Y0_14) × Int × (List Y0_14) × Int × Int × Unit) → Option Y0_32) := iV (iU (iL (iL (iL (iL (iL iE)))))) (l50_3 k)
def L50_3 (k a : Nat) (b : List Y0_14) (c : Int) (e : List Y0_14) (f h : Int) : Option Y0_32 := iter c50_L3 (b50_3 k) a ((), b, c, e, f, h, ())
theorem L50_3_s (k a b c e f h) : L50_3 k (a + 1) b c e f h = l50_3 k (L50_3 k a) b c e f h := iter_succ _ _ _ _
def S50 (k : Nat) (a : List Y0_14) : Option Y0_32 :=
 L50_3 k k a 0 a (a.length : Int) 0
def F50 : Fn := ⟨[.val ⟨false, (.sl 96 (.sl 120 Y0_16)), false⟩], [u0_3], fun k x => S50 k x.1⟩
theorem ok50 : O 50 F50 := okF (Om ok80 Oz) [] (fun k => (.loop 11 c50_L11 (b50_11 k) (fun g => .nil) (.loop 3 c50_L3 (b50_3 k) (fun g => .nil) .nil))) Tryz.func50 rfl
def S27 (k : Nat) (a : Y0_28) : Option ((Int × Int × Y0_14 × Unit) × Unit) :=
 (S16 k a).bind fun q0 =>
 (bif q0.1.1 != 0 then
  some ((0, 0, [], ()), ())
 else
  (S49 k a.2.2.2.1).bind fun q1 =>
  (S49 k a.2.2.2.2.1).bind fun q2 =>
  (bif q2.1.2.1 then
   (S50 k ([q1.1.1.2.2, q2.1.1.2.2] : List Y0_14)).bind fun q3 =>
   some ((q1.1.1.1, q2.1.1.1, q3.1.1, ()), ())
  else
   (S50 k ([q1.1.1.2.2, q2.1.1.2.2] : List Y0_14)).bind fun q4 =>
   some ((q1.1.1.1, q1.1.1.2.1, q4.1.1, ()), ())))
def F27 : Fn := ⟨[u0_18], [rI, rI, u0_3], fun k x => S27 k x.1⟩
theorem ok27 : O 27 F27 := okF (Om ok16 <| Om ok49 <| Om ok50 Oz) [] On Tryz.func27 rfl
def S124 (k : Nat) (a : Int) : Option Y0_38 :=
 (bif decide (a < 0) then
  none
 else
  (bif decide ((IntKind.i64.wrap (a - 0)) > 0) then
   az ([] : List Y0_7) (IntKind.i64.wrap (a - 0)) 32 (0, 0, 0, 0) fun r0 =>
   sx r0 0 0 <|
   some ((r0.take 0, ()), ())
  else
   some (([], ()), ())))
def F124 : Fn := ⟨[.pv (.nil), pI], [.val ⟨false, Y0_25, true⟩], fun k x => S124 k x.2.1⟩
theorem ok124 : O 124 F124 := okF Oz [(25, 1)] On Tryz.func124 rfl
abbrev c85_L11 : Cut := ⟨[6, 25, 26, 27], [.own 46 Y0_6, .cell (.sl 28 Y0_25), cI, cI], [], 36, []⟩
def l85_11 (k : Nat) (g11 : (List Y0_7) → Y0_71 → Int → Int → Option Y0_38) (a : List Y0_7) (b : List (List Y0_7)) (c e : Int) : Option Y0_38 :=
 (bif decide (e < c) then
  ix b e <|
  ap a (rd b e []) 32 fun r1 =>
  g11 r1 b c (IntKind.i64.wrap (e + 1))
 else
  some ((a, ()), ()))
def b85_11 (k : Nat) : Xx (((Unit) × (List Y0_7) × Y0_71 × Int × Int × Unit) → Option Y0_38) := iV (iU (iL (iL (iL (iL iE))))) (l85_11 k)
def L85_11 (k a : Nat) (b : List Y0_7) (c : List (List Y0_7)) (e f : Int) : Option Y0_38 := iter c85_L11 (b85_11 k) a ((), b, c, e, f, ())
theorem L85_11_s (k a b c e f) : L85_11 k (a + 1) b c e f = l85_11 k (L85_11 k a) b c e f := iter_succ _ _ _ _
abbrev c85_L3 : Cut := ⟨[0, 3, 9, 10, 11], [.cell (.sl 28 Y0_25), cI, .cell (.sl 28 Y0_25), cI, cI], [], 36, []⟩
def l85_3 (k : Nat) (g3 : Y0_71 → Int → Y0_71 → Int → Int → Option Y0_38) (a : List (List Y0_7)) (b : Int) (c : List (List Y0_7)) (e f : Int) : Option Y0_38 :=
 (bif decide (f < e) then
  ix c f <|
  (bif decide ((IntKind.i64.wrap (b + ((rd c f []).length : Int))) < 0) then
   none
  else
   g3 a (IntKind.i64.wrap (b + ((rd c f []).length : Int))) c e (IntKind.i64.wrap (f + 1)))
 else
  (S124 k b).bind fun q0 =>
  L85_11 k k q0.1.1 a (a.length : Int) 0)
def b85_3 (k : Nat) : Xx (((Unit) × Y0_71 × Int × Y0_71 × Int × Int × Unit) → Option Y0_38) := iV (iU (iL (iL (iL (iL (iL iE)))))) (l85_3 k)
def L85_3 (k a : Nat) (b : List (List Y0_7)) (c : Int) (e : List (List Y0_7)) (f h : Int) : Option Y0_38 := iter c85_L3 (b85_3 k) a ((), b, c, e, f, h, ())
theorem L85_3_s (k a b c e f h) : L85_3 k (a + 1) b c e f h = l85_3 k (L85_3 k a) b c e f h := iter_succ _ _ _ _
def S85 (k : Nat) (a : List (List Y0_7)) : Option Y0_38 :=
 L85_3 k k a 0 a (a.length : Int) 0
def F85 : Fn := ⟨[.val ⟨false, (.sl 28 Y0_25), false⟩], [.val ⟨false, Y0_25, true⟩], fun k x => S85 k x.1⟩
theorem ok85 : O 85 F85 := okF (Om ok124 Oz) [] (fun k => (.loop 11 c85_L11 (b85_11 k) (fun g => .nil) (.loop 3 c85_L3 (b85_3 k) (fun g => .nil) .nil))) Tryz.func85 rfl
def S86 (k : Nat) (a : Int × Int × Int × Int) (b : Int) : Option Y0_15 :=
 (bif a.1 == 9 then
  some ((a.2.1 == b, ()), ())
 else
  some ((false, ()), ()))
def F86 : Fn := ⟨[u0_17, u0_20], [rB], fun k x => S86 k x.1 x.2.1⟩
theorem ok86 : O 86 F86 := okF Oz [] On Tryz.func86 rfl
abbrev c65c_L2 : Cut := ⟨[0, 1, 7, 8], [.cell Y0_25, .clo 86 [.ref (.int .i64)], cI, cI], [], 19, []⟩
def l65c_2 (k : Nat) (g2 : (List Y0_7) → Int → Int → Int → Option Y0_11) (a : List Y0_7) (b c e : Int) : Option Y0_11 :=
 (bif decide (e < c) then
  ix a e <|
  (S86 k (rd a e (0, 0, 0, 0)) b).bind fun q0 =>
  (bif q0.1.1 then
   some ((e, ()), ())
  else
   g2 a b c (IntKind.i64.wrap (e + 1)))
 else
  some (((-1), ()), ()))
def b65c_2 (k : Nat) : Xx (((Unit) × (List Y0_7) × Y0_54 × Int × Int × Unit) → Option Y0_11) := iV (iU (iL (iN (iL iE) (iL (iL iE))))) (l65c_2 k)
def L65c_2 (k a : Nat) (b : List Y0_7) (c e f : Int) : Option Y0_11 := iter c65c_L2 (b65c_2 k) a ((), b, (c, ()), e, f, ())
theorem L65c_2_s (k a b c e f) : L65c_2 k (a + 1) b c e f = l65c_2 k (L65c_2 k a) b c e f := iter_succ _ _ _ _
def S65c (k : Nat) (a : List Y0_7) (b : Int) : Option Y0_11 :=
 L65c_2 k k a b (a.length : Int) 0
def F65c : Fn := ⟨[u0_5, .pv (.clo 86 [.ref (.int .i64)])], [rI], fun k x => S65c k x.1 x.2.1.1⟩
theorem ok65c : O 65 F65c := okF (Om ok86 Oz) [] (fun k => (.loop 2 c65c_L2 (b65c_2 k) (fun g => .nil) .nil)) Tryz.func65 rfl
def S62b (k : Nat) (a : List Y0_7) (b : Int) : Option Y0_15 :=
 (S65c k a b).bind fun q0 =>
 some ((decide (q0.1.1 ≥ 0), ()), ())
def F62b : Fn := ⟨[u0_5, .pv (.clo 86 [.ref (.int .i64)])], [rB], fun k x => S62b k x.1 x.2.1.1⟩
theorem ok62b : O 62 F62b := okF (Om ok65c Oz) [] On Tryz.func62 rfl
def S84 (k : Nat) (a : Y0_28) (b : Int) : Option Y0_15 :=
 (S85 k ([a.2.2.2.1, a.2.2.2.2.1] : List (List Y0_7))).bind fun q0 =>
 (S62b k q0.1.1 b).bind fun q1 =>
 some ((q1.1.1, ()), ())
def F84 : Fn := ⟨[u0_18, u0_20], [rB], fun k x => S84 k x.1 x.2.1⟩
theorem ok84 : O 84 F84 := okF (Om ok62b <| Om ok85 Oz) [] On Tryz.func84 rfl
abbrev c18a_L2 : Cut := ⟨[0, 1, 7, 8], [.cell Y0_40, .clo 84 [.ref (.int .i64)], cI, cI], [], 19, []⟩
def l18a_2 (k : Nat) (g2 : (List Y0_0) → Int → Int → Int → Option Y0_11) (a : List Y0_0) (b c e : Int) : Option Y0_11 :=
 (bif decide (e < c) then
  ix a e <|
  (S84 k (rd a e (0, 0, 0, [], [], [])) b).bind fun q0 =>
  (bif q0.1.1 then
   some ((e, ()), ())
  else
   g2 a b c (IntKind.i64.wrap (e + 1)))
 else
  some (((-1), ()), ()))
def b18a_2 (k : Nat) : Xx (((Unit) × (List Y0_0) × Y0_54 × Int × Int × Unit) → Option Y0_11) := iV (iU (iL (iN (iL iE) (iL (iL iE))))) (l18a_2 k)
def L18a_2 (k a : Nat) (b : List Y0_0) (c e f : Int) : Option Y0_11 := iter c18a_L2 (b18a_2 k) a ((), b, (c, ()), e, f, ())
theorem L18a_2_s (k a b c e f) : L18a_2 k (a + 1) b c e f = l18a_2 k (L18a_2 k a) b c e f := iter_succ _ _ _ _
def S18a (k : Nat) (a : List Y0_0) (b : Int) : Option Y0_11 :=
 L18a_2 k k a b (a.length : Int) 0
def F18a : Fn := ⟨[u0_7, .pv (.clo 84 [.ref (.int .i64)])], [rI], fun k x => S18a k x.1 x.2.1.1⟩
theorem ok18a : O 18 F18a := okF (Om ok84 Oz) [] (fun k => (.loop 2 c18a_L2 (b18a_2 k) (fun g => .nil) .nil)) Tryz.func18 rfl
def S53 (k : Nat) (a : List Y0_0) (b : Int) : Option Y0_11 :=
 (S18a k a b).bind fun q0 =>
 (bif decide (q0.1.1 < 0) then
  some ((8, ()), ())
 else
  some ((q0.1.1, ()), ()))
def F53 : Fn := ⟨[u0_7, pI], [rI], fun k x => S53 k x.1 x.2.1⟩
theorem ok53 : O 53 F53 := okF (Om ok18a Oz) [] On Tryz.func53 rfl
abbrev c29_J13 : Cut := ⟨[0, 1, 4, 5, 12, 16, 17, 18, 32, 33, 34], [.cell Y0_40, cI, cI, .mp 122 true (.int .i64) false (.int .i64), .box 120 [cI, cI], .cell Y0_40, cI, cI, .own 120 Y0_16, cI, cI], [], 70, []⟩
def j29_13 (k : Nat) (g3 : Y0_30) (g8 : Y0_49) (a : List Y0_0) (b c : Int) (e : Y0_31) (x f : Int) (h : List Y0_0) (i l : Int) (m : Y0_31) (n o : Int) : Option Y0_11 :=
 (bif decide ((mget (.int .i64) (.int .i64) x e 0) ≤ b) then
  g8 a b (mx c f) e h i l m n (IntKind.i64.wrap (o + 1))
 else
  g8 a b c e h i l m n (IntKind.i64.wrap (o + 1)))
abbrev c29_L8 : Cut := ⟨[0, 1, 4, 5, 16, 17, 18, 32, 33, 34], [.cell Y0_40, cI, cI, .mp 122 true (.int .i64) false (.int .i64), .cell Y0_40, cI, cI, .own 120 Y0_16, cI, cI], [], 70, []⟩
def l29_8 (k : Nat) (g3 : Y0_30) (g8 : Y0_49) (a : List Y0_0) (b c : Int) (e : Y0_31) (f : List Y0_0) (h i : Int) (l : Y0_31) (m n : Int) : Option Y0_11 :=
 (bif decide (n < m) then
  ix l n <|
  (bif !(mhas (.int .i64) (.int .i64) (rd l n (0, 0)).1 e) then
   (S53 k a (rd l n (0, 0)).1).bind fun q1 =>
   j29_13 k g3 g8 a b c (updD (.int .i64) (.int .i64) (rd l n (0, 0)).1 q1.1.1 e) (rd l n (0, 0)).1 (rd l n (0, 0)).2 f h i l m n
  else
   j29_13 k g3 g8 a b c e (rd l n (0, 0)).1 (rd l n (0, 0)).2 f h i l m n)
 else
  g3 a b c e f h (IntKind.i64.wrap (i + 1)))
def b29_8 (k : Nat) (g3 : Y0_30) : Xx (((Unit) × (List Y0_0) × Int × Int × Y0_14 × (List Y0_0) × Int × Int × Y0_14 × Int × Int × Unit) → Option Y0_11) := iV (iU (iL (iL (iL (iL (iL (iL (iL (iL (iL (iL iE))))))))))) (l29_8 k g3)
def L29_8 (k : Nat) (g3 : Y0_30) (a : Nat) (b : List Y0_0) (c e : Int) (f : Y0_31) (h : List Y0_0) (i l : Int) (m : Y0_31) (n o : Int) : Option Y0_11 := iter c29_L8 (b29_8 k g3) a ((), b, c, e, f, h, i, l, m, n, o, ())
theorem L29_8_s (k g3 a b c e f h i l m n o) : L29_8 k g3 (a + 1) b c e f h i l m n o = l29_8 k g3 (L29_8 k g3 a) b c e f h i l m n o := iter_succ _ _ _ _
abbrev c29_L3 : Cut := ⟨[0, 1, 4, 5, 16, 17, 18], [.cell Y0_40, cI, cI, .mp 122 true (.int .i64) false (.int .i64), .cell Y0_40, cI, cI], [], 70, []⟩
def l29_3 (k : Nat) (g3 : Y0_30) (a : List Y0_0) (b c : Int) (e : Y0_31) (f : List Y0_0) (h i : Int) : Option Y0_11 :=
 (bif decide (i < h) then
  ix f i <|
  (bif i == b then
   g3 a b c e f h (IntKind.i64.wrap (i + 1))
  else
   (S27 k (rd f i (0, 0, 0, [], [], []))).bind fun q0 =>
   L29_8 k g3 k a b c e f h i q0.1.2.2.1 (q0.1.2.2.1.length : Int) 0)
 else
  some ((c, ()), ()))
def b29_3 (k : Nat) : Xx (((Unit) × (List Y0_0) × Int × Int × Y0_14 × (List Y0_0) × Int × Int × Unit) → Option Y0_11) := iV (iU (iL (iL (iL (iL (iL (iL (iL iE)))))))) (l29_3 k)
def L29_3 (k a : Nat) (b : List Y0_0) (c e : Int) (f : Y0_31) (h : List Y0_0) (i l : Int) : Option Y0_11 := iter c29_L3 (b29_3 k) a ((), b, c, e, f, h, i, l, ())
theorem L29_3_s (k a b c e f h i l) : L29_3 k (a + 1) b c e f h i l = l29_3 k (L29_3 k a) b c e f h i l := iter_succ _ _ _ _
def S29 (k : Nat) (a : List Y0_0) (b : Int) : Option Y0_11 :=
 L29_3 k k a b 0 ([] : List (Int × Int)) a (a.length : Int) 0
def F29 : Fn := ⟨[u0_7, pI], [rI], fun k x => S29 k x.1 x.2.1⟩
theorem ok29 : O 29 F29 := okF (Om ok27 <| Om ok53 Oz) [] (fun k => (.loop 3 c29_L3 (b29_3 k) (fun g => (fun (g3 : Y0_30) => (.loop 8 c29_L8 (b29_8 k g3) (fun g => (fun (g8 : Y0_49) => (.join 13 c29_J13 (fun (_, a, b, c, e, (f, h, _), i, l, m, n, o, p, _) => j29_13 k g3 g8 a b c e f h i l m n o p) .nil)) (fun l_2 i2 most1 ceils1 t16_1 t17_1 t18_1 t32 t33 t34 => g ((), l_2, i2, most1, ceils1, t16_1, t17_1, t18_1, t32, t33, t34, ()))) .nil)) (fun l_1 i1 most ceils t16 t17 t18 => g ((), l_1, i1, most, ceils, t16, t17, t18, ()))) .nil)) Tryz.func29 rfl
def S28 (k : Nat) (a : Int) (b : Bool) (c e : Int) : Option ((Unit) × Y0_68 × Unit) :=
 (S51 k c e).bind fun q0 =>
 (S52 k a q0.1.1).bind fun q1 =>
 (bif b then
  some ((), (q1.1.1, true, ()), ())
 else
  (bif !q0.1.2.1 then
   some ((), (q1.1.1, true, ()), ())
  else
   some ((), (q1.1.1, !q1.1.2.1, ()), ())))
def F28 : Fn := ⟨[.mbox 100 [cI, .cell .bool], pI, pI], [], fun k ((a, b, _), c, e, _) => S28 k a b c e⟩
theorem ok28 : O 28 F28 := okF (Om ok51 <| Om ok52 Oz) [] On Tryz.func28 rfl
def S54 (k : Nat) (a b : Int) : Option Y0_34 :=
 (bif decide (b < 1) then
  some ((0, false, ()), ())
 else
  (bif decide (a < 0) then
   some ((0, false, ()), ())
  else
   nz b <|
   nz b <|
   (bif decide ((Int.tmod a b) > 0) then
    some ((IntKind.i64.wrap ((IntKind.i64.wrap (Int.tdiv a b)) + 1), true, ()), ())
   else
    some ((IntKind.i64.wrap (Int.tdiv a b), true, ()), ()))))
def F54 : Fn := ⟨[pI, pI], [rI, rB], fun k x => S54 k x.1 x.2.1⟩
theorem ok54 : O 54 F54 := okF Oz [] On Tryz.func54 rfl
def S30 (k : Nat) (a b : Int) : Option Y0_11 :=
 (S54 k a b).bind fun q0 =>
 some ((q0.1.1, ()), ())
def F30 : Fn := ⟨[pI, pI], [rI], fun k x => S30 k x.1 x.2.1⟩
theorem ok30 : O 30 F30 := okF (Om ok54 Oz) [] On Tryz.func30 rfl
abbrev c12_L18 : Cut := ⟨[0, 1, 2, 6, 7, 12, 18, 19, 88, 89, 90], [.cell Y0_40, cI, cI, cI, cI, cI, .box 100 [cI, .cell .bool], .box 100 [cI, .cell .bool], .cell Y0_40, cI, cI], [], 128, []⟩
def l12_18 (k : Nat) (g14 : Y0_35) (g18 : (List Y0_0) → Int → Int → Int → Int → Int → Int → Bool → Int → Bool → (List Y0_0) → Int → Int → Option Y0_23) (a : List Y0_0) (b c e f h i : Int) (l : Bool) (m : Int) (n : Bool) (o : List Y0_0) (p s : Int) : Option Y0_23 :=
 (bif decide (s < p) then
  ix o s <|
  (S27 k (rd o s (0, 0, 0, [], [], []))).bind fun q7 =>
  (S30 k e (rd o s (0, 0, 0, [], [], [])).2.1).bind fun q8 =>
  (S28 k m n q8.1.1 q7.1.1).bind fun q9 =>
  g18 a b c e f h i l q9.2.1.1 q9.2.1.2.1 o p (IntKind.i64.wrap (s + 1))
 else
  (bif n then
   some ((0, 0, 13, ()), ())
  else
   ix a b <|
   (bif decide (m > (rd a b (0, 0, 0, [], [], [])).2.2.1) then
    some ((0, 0, 14, ()), ())
   else
    (bif m == e then
     some ((e, f, 0, ()), ())
    else
     g14 a b c m f h i l))))
def b12_18 (k : Nat) (g14 : Y0_35) : Xx (((Unit) × (List Y0_0) × Int × Int × Int × Int × Int × Y0_68 × Y0_68 × (List Y0_0) × Int × Int × Unit) → Option Y0_23) := iV (iU (iL (iL (iL (iL (iL (iL (iN (iL (iL iE)) (iN (iL (iL iE)) (iL (iL (iL iE)))))))))))) (l12_18 k g14)
def L12_18 (k : Nat) (g14 : Y0_35) (a : Nat) (b : List Y0_0) (c e f h i l : Int) (m : Bool) (n : Int) (o : Bool) (p : List Y0_0) (s t : Int) : Option Y0_23 := iter c12_L18 (b12_18 k g14) a ((), b, c, e, f, h, i, (l, m, ()), (n, o, ()), p, s, t, ())
theorem L12_18_s (k g14 a b c e f h i l m n o p s t) : L12_18 k g14 (a + 1) b c e f h i l m n o p s t = l12_18 k g14 (L12_18 k g14 a) b c e f h i l m n o p s t := iter_succ _ _ _ _
abbrev c12_L14 : Cut := ⟨[0, 1, 2, 6, 7, 12, 18], [.cell Y0_40, cI, cI, cI, cI, cI, .box 100 [cI, .cell .bool]], [], 128, []⟩
def l12_14 (k : Nat) (g14 : Y0_35) (a : List Y0_0) (b c e f h i : Int) (l : Bool) : Option Y0_23 :=
 (S30 k e c).bind fun q5 =>
 (S28 k i l q5.1.1 h).bind fun q6 =>
 sx a 0 b <|
 L12_18 k g14 k a b c e (IntKind.i64.wrap (f + 1)) h i l q6.2.1.1 q6.2.1.2.1 (sub a 0 b) ((sub a 0 b).length : Int) 0
def b12_14 (k : Nat) : Xx (((Unit) × (List Y0_0) × Int × Int × Int × Int × Int × Y0_68 × Unit) → Option Y0_23) := iV (iU (iL (iL (iL (iL (iL (iL (iN (iL (iL iE)) iE)))))))) (l12_14 k)
def L12_14 (k a : Nat) (b : List Y0_0) (c e f h i l : Int) (m : Bool) : Option Y0_23 := iter c12_L14 (b12_14 k) a ((), b, c, e, f, h, i, (l, m, ()), ())
theorem L12_14_s (k a b c e f h i l m) : L12_14 k (a + 1) b c e f h i l m = l12_14 k (L12_14 k a) b c e f h i l m := iter_succ _ _ _ _
abbrev c12_L6 : Cut := ⟨[0, 1, 2, 7, 9, 12, 54, 55, 56], [.cell Y0_40, cI, cI, cI, cI, cI, .cell Y0_40, cI, cI], [], 128, []⟩
def l12_6 (k : Nat) (g6 : (List Y0_0) → Int → Int → Int → Int → Int → (List Y0_0) → Int → Int → Option Y0_23) (a : List Y0_0) (b c e f h : Int) (i : List Y0_0) (l m : Int) : Option Y0_23 :=
 (bif decide (m < l) then
  ix i m <|
  (S27 k (rd i m (0, 0, 0, [], [], []))).bind fun q2 =>
  g6 a b c e f (mx h q2.1.2.1) i l (IntKind.i64.wrap (m + 1))
 else
  (S29 k a b).bind fun q3 =>
  (S28 k f false 1 q3.1.1).bind fun q4 =>
  L12_14 k k a b c q4.2.1.1 e h q4.2.1.1 q4.2.1.2.1)
def b12_6 (k : Nat) : Xx (((Unit) × (List Y0_0) × Int × Int × Int × Int × Int × (List Y0_0) × Int × Int × Unit) → Option Y0_23) := iV (iU (iL (iL (iL (iL (iL (iL (iL (iL (iL iE)))))))))) (l12_6 k)
def L12_6 (k a : Nat) (b : List Y0_0) (c e f h i : Int) (l : List Y0_0) (m n : Int) : Option Y0_23 := iter c12_L6 (b12_6 k) a ((), b, c, e, f, h, i, l, m, n, ())
theorem L12_6_s (k a b c e f h i l m n) : L12_6 k (a + 1) b c e f h i l m n = l12_6 k (L12_6 k a) b c e f h i l m n := iter_succ _ _ _ _
def S12 (k : Nat) (a : List Y0_0) (b c : Int) : Option Y0_23 :=
 (S26 k a).bind fun q0 =>
 (bif !q0.1.1 then
  some ((0, 0, 1, ()), ())
 else
  (bif decide (b < 0) then
   some ((0, 0, 1, ()), ())
  else
   (bif decide (b ≥ (a.length : Int)) then
    some ((0, 0, 1, ()), ())
   else
    (bif decide (c < 1) then
     some ((0, 0, 1, ()), ())
    else
     ix a b <|
     (S27 k (rd a b (0, 0, 0, [], [], []))).bind fun q1 =>
     sx a 0 (IntKind.i64.wrap (b + 1)) <|
     L12_6 k k a b c 0 q1.1.1 0 (sub a 0 (IntKind.i64.wrap (b + 1))) ((sub a 0 (IntKind.i64.wrap (b + 1))).length : Int) 0))))
def F12 : Fn := ⟨[u0_7, pI, pI], [rI, rI, rI], fun k (a, b, c, _) => S12 k a b c⟩
theorem ok12 : O 12 F12 := okF (Om ok26 <| Om ok27 <| Om ok28 <| Om ok29 <| Om ok30 Oz) [] (fun k => (.loop 14 c12_L14 (b12_14 k) (fun g => (fun (g14 : Y0_35) => (.loop 18 c12_L18 (b12_18 k g14) (fun g => .nil) .nil)) (fun l_2 i2 apart2 r_ rounds1 lost1 first first1 => g ((), l_2, i2, apart2, r_, rounds1, lost1, (first, first1, ()), ()))) (.loop 6 c12_L6 (b12_6 k) (fun g => .nil) .nil))) Tryz.func12 rfl
abbrev c21_L4 : Cut := ⟨[0, 1, 4, 16, 17, 18], [.cell Y0_40, cI, .own 43 Y0_37, .cell Y0_40, cI, cI], [], 56, []⟩
def l21_4 (k : Nat) (g4 : (List Y0_0) → Int → Y0_67 → (List Y0_0) → Int → Int → Option Y0_55) (a : List Y0_0) (b : Int) (c : List (PN Int 5)) (e : List Y0_0) (f h : Int) : Option Y0_55 :=
 (bif decide (h < f) then
  ix e h <|
  (S12 k a h b).bind fun q0 =>
  (bif q0.1.2.2.1 != 0 then
   some ((([] : List (PN Int 5)), q0.1.2.2.1, ()), ())
  else
   (S27 k (rd e h (0, 0, 0, [], [], []))).bind fun q1 =>
   (S29 k a h).bind fun q2 =>
   ap c ([(q1.1.1, q1.1.2.1, q2.1.1, q0.1.1, IntKind.i64.wrap ((rd e h (0, 0, 0, [], [], [])).2.2.1 - q0.1.1))] : List (PN Int 5)) 40 fun r3 =>
   g4 a b r3 e f (IntKind.i64.wrap (h + 1)))
 else
  some ((c, 0, ()), ()))
def b21_4 (k : Nat) : Xx (((Unit) × (List Y0_0) × Int × Y0_67 × (List Y0_0) × Int × Int × Unit) → Option Y0_55) := iV (iU (iL (iL (iL (iL (iL (iL iE))))))) (l21_4 k)
def L21_4 (k a : Nat) (b : List Y0_0) (c : Int) (e : List (PN Int 5)) (f : List Y0_0) (h i : Int) : Option Y0_55 := iter c21_L4 (b21_4 k) a ((), b, c, e, f, h, i, ())
theorem L21_4_s (k a b c e f h i) : L21_4 k (a + 1) b c e f h i = l21_4 k (L21_4 k a) b c e f h i := iter_succ _ _ _ _
def S21 (k : Nat) (a : List Y0_0) (b : Int) : Option Y0_55 :=
 (bif decide (b < 1) then
  some ((([] : List (PN Int 5)), 1, ()), ())
 else
  L21_4 k k a b ([] : List (PN Int 5)) a (a.length : Int) 0)
def F21 : Fn := ⟨[u0_7, pI], [u0_4, rI], fun k x => S21 k x.1 x.2.1⟩
theorem ok21 : O 21 F21 := okF (Om ok12 <| Om ok27 <| Om ok29 Oz) [(4, 2)] (fun k => (.loop 4 c21_L4 (b21_4 k) (fun g => .nil) .nil)) Tryz.func21 rfl
abbrev c8_J23 : Cut := ⟨[2, 4, 13, 16], [cI, .box 30 [cI, cI, cI, .cell Y0_25, .cell Y0_25, .cell Y0_25], .own 30 Y0_1, cI], [], 82, []⟩
def j8_23 (k : Nat) (a b c e : Int) (f h i : List Y0_7) (l : List Y0_0) (m : Int) : Option Y0_24 :=
 (S17 k (b, c, e, f, h, i)).bind fun q4 =>
 (S20 k l m ([q4.1.1] : List Y0_0)).bind fun q5 =>
 (S21 k q5.1.1 a).bind fun q6 =>
 (bif q6.1.2.1 != 0 then
  some (([], [], q6.1.2.1, ()), ())
 else
  some ((q5.1.1, q6.1.1, 0, ()), ()))
abbrev c8_L16 : Cut := ⟨[2, 4, 13, 46, 47, 48], [cI, .box 30 [cI, cI, cI, .cell Y0_25, .cell Y0_25, .cell Y0_25], .own 30 Y0_1, .cell Y0_40, cI, cI], [], 82, []⟩
def l8_16 (k : Nat) (g16 : Int → Int → Int → Int → (List Y0_7) → (List Y0_7) → (List Y0_7) → (List Y0_0) → (List Y0_0) → Int → Int → Option Y0_24) (a b c e : Int) (f h i : List Y0_7) (l m : List Y0_0) (n o : Int) : Option Y0_24 :=
 (bif decide (o < n) then
  ix m o <|
  (S17 k (rd m o (0, 0, 0, [], [], []))).bind fun q1 =>
  ap l ([q1.1.1] : List Y0_0) 96 fun r2 =>
  g16 a b c e f h i r2 m n (IntKind.i64.wrap (o + 1))
 else
  (S18 k l (b, c, e, f, h, i)).bind fun q3 =>
  (bif decide (q3.1.1 < 0) then
   j8_23 k a b c e f h i l (l.length : Int)
  else
   j8_23 k a b c e f h i l q3.1.1))
def b8_16 (k : Nat) : Xx (((Unit) × Int × Y0_53 × (List Y0_0) × (List Y0_0) × Int × Int × Unit) → Option Y0_24) := iV (iU (iL (iN (iL (iL (iL (iL (iL (iL iE)))))) (iL (iL (iL (iL iE))))))) (l8_16 k)
def L8_16 (k a : Nat) (b c e f : Int) (h i l : List Y0_7) (m n : List Y0_0) (o p : Int) : Option Y0_24 := iter c8_L16 (b8_16 k) a ((), b, (c, e, f, h, i, l, ()), m, n, o, p, ())
theorem L8_16_s (k a b c e f h i l m n o p) : L8_16 k (a + 1) b c e f h i l m n o p = l8_16 k (L8_16 k a) b c e f h i l m n o p := iter_succ _ _ _ _
abbrev c8_L3 : Cut := ⟨[0, 2, 4, 9, 20, 21, 22], [.cell Y0_40, cI, .box 30 [cI, cI, cI, .cell Y0_25, .cell Y0_25, .cell Y0_25], .mp 79 true (.int .i64) false .bool, .cell Y0_40, cI, cI], [], 82, []⟩
def l8_3 (k : Nat) (g3 : (List Y0_0) → Int → Int → Int → Int → (List Y0_7) → (List Y0_7) → (List Y0_7) → (List (Int × Bool)) → (List Y0_0) → Int → Int → Option Y0_24) (a : List Y0_0) (b c e f : Int) (h i l : List Y0_7) (m : List (Int × Bool)) (n : List Y0_0) (o p : Int) : Option Y0_24 :=
 (bif decide (p < o) then
  ix n p <|
  g3 a b c e f h i l (updD (.int .i64) .bool (rd n p (0, 0, 0, [], [], [])).1 true m) n o (IntKind.i64.wrap (p + 1))
 else
  (S16 k (c, e, f, h, i, l)).bind fun q0 =>
  (bif q0.1.1 != 0 then
   some (([], [], q0.1.1, ()), ())
  else
   (bif mget (.int .i64) .bool c m false then
    some (([], [], 11, ()), ())
   else
    (bif decide ((a.length : Int) ≥ 8) then
     some (([], [], 4, ()), ())
    else
     L8_16 k k b c e f h i l ([] : List Y0_0) a (a.length : Int) 0))))
def b8_3 (k : Nat) : Xx (((Unit) × (List Y0_0) × Int × Y0_53 × (List (Int × Bool)) × (List Y0_0) × Int × Int × Unit) → Option Y0_24) := iV (iU (iL (iL (iN (iL (iL (iL (iL (iL (iL iE)))))) (iL (iL (iL (iL iE)))))))) (l8_3 k)
def L8_3 (k a : Nat) (b : List Y0_0) (c e f h : Int) (i l m : List Y0_7) (n : List (Int × Bool)) (o : List Y0_0) (p s : Int) : Option Y0_24 := iter c8_L3 (b8_3 k) a ((), b, c, (e, f, h, i, l, m, ()), n, o, p, s, ())
theorem L8_3_s (k a b c e f h i l m n o p s) : L8_3 k (a + 1) b c e f h i l m n o p s = l8_3 k (L8_3 k a) b c e f h i l m n o p s := iter_succ _ _ _ _
def S8 (k : Nat) (a : List Y0_0) (b : Y0_28) (c : Int) : Option Y0_24 :=
 L8_3 k k a c b.1 b.2.1 b.2.2.1 b.2.2.2.1 b.2.2.2.2.1 b.2.2.2.2.2 ([] : List (Int × Bool)) a (a.length : Int) 0
def F8 : Fn := ⟨[u0_7, u0_18, pI], [.val ⟨false, Y0_40, true⟩, u0_4, rI], fun k (a, b, c, _) => S8 k a b c⟩
theorem ok8 : O 8 F8 := okF (Om ok16 <| Om ok17 <| Om ok18 <| Om ok20 <| Om ok21 Oz) [(13, 2)] (fun k => (.join 23 c8_J23 (fun (_, a, (b, c, e, f, h, i, _), l, m, _) => j8_23 k a b c e f h i l m) (.loop 16 c8_L16 (b8_16 k) (fun g => .nil) (.loop 3 c8_L3 (b8_3 k) (fun g => .nil) .nil)))) Tryz.func8 rfl
def S88 (k : Nat) (a b : Int) (c : List Y0_0) (e : List (PN Int 5)) (f h i : Bool) (l : List Y0_3) (m : List Int) (n : List Bool) (o : List Y0_4) (p : List Int) (s : List Bool) (t u v w : Int) (y z A : List Y0_7) (B C D G H : Int) (I : List (PN Int 6)) (J K M N : Int) : Option ((Unit) × Y0_12 × Unit) :=
 (bif f then
  some ((), (a, b, c, e, f, h, i, l, m, n, o, p, s, t, u, v, w, y, z, A, B, C, D, G, H, I, 7, K, M, N, ()), ())
 else
  (S8 k c (u, v, w, y, z, A) b).bind fun q0 =>
  (bif q0.1.2.2.1 == 0 then
   some ((), (a, b, q0.1.1, q0.1.2.1, f, h, i, l, m, n, o, p, s, t, u, v, w, y, z, A, B, C, D, G, H, I, q0.1.2.2.1, K, M, N, ()), ())
  else
   some ((), (a, b, c, e, f, h, i, l, m, n, o, p, s, t, u, v, w, y, z, A, B, C, D, G, H, I, q0.1.2.2.1, K, M, N, ()), ())))
def F88 : Fn := ⟨[u0_0], [], fun k ((a, b, c, e, f, h, i, l, m, n, o, p, s, t, u, v, w, y, z, A, B, C, D, G, H, I, J, K, M, N, _), _) => S88 k a b c e f h i l m n o p s t u v w y z A B C D G H I J K M N⟩
theorem ok88 : O 88 F88 := okF (Om ok8 Oz) [] On Tryz.func88 rfl
def S135 (k : Nat) (a : List Y0_0) : Option (((List Y0_0) × Unit) × Unit) := cloneSem 96 30 Y0_1 k (a, ())
def F135 : Fn := ⟨clonePs 30 Y0_1, cloneRs 30 Y0_1, cloneSem 96 30 Y0_1⟩
theorem ok135 : O 135 F135 := clone_ok E0_ok mix Tryz.func135 rfl (by kernel_rfl) (by kernel_rfl) (fun k => by kernel_rfl) (fun k xs => by kernel_rfl) (fun k xs => by kernel_rfl)
def S136 (k : Nat) (a : List (PN Int 5)) : Option ((Y0_67 × Unit) × Unit) := cloneSem 40 43 Y0_37 k (a, ())
def F136 : Fn := ⟨clonePs 43 Y0_37, cloneRs 43 Y0_37, cloneSem 40 43 Y0_37⟩
theorem ok136 : O 136 F136 := clone_ok E0_ok mix Tryz.func136 rfl (by kernel_rfl) (by kernel_rfl) (fun k => by kernel_rfl) (fun k xs => by kernel_rfl) (fun k xs => by kernel_rfl)
def S137 (k : Nat) (a : List Y0_3) : Option (((List Y0_3) × Unit) × Unit) := cloneSem 272 184 Y0_2 k (a, ())
def F137 : Fn := ⟨clonePs 184 Y0_2, cloneRs 184 Y0_2, cloneSem 272 184 Y0_2⟩
theorem ok137 : O 137 F137 := clone_ok E0_ok mix Tryz.func137 rfl (by kernel_rfl) (by kernel_rfl) (fun k => by kernel_rfl) (fun k xs => by kernel_rfl) (fun k xs => by kernel_rfl)
def S172 (k : Nat) (a : List (Int × Int × Int)) : Option (((List (Int × Int × Int)) × Unit) × Unit) := cloneSem 24 270 (.pair (.int .i64) Y0_16) k (a, ())
def F172 : Fn := ⟨clonePs 270 (.pair (.int .i64) Y0_16), cloneRs 270 (.pair (.int .i64) Y0_16), cloneSem 24 270 (.pair (.int .i64) Y0_16)⟩
theorem ok172 : O 172 F172 := clone_ok E0_ok mix Tryz.func172 rfl (by kernel_rfl) (by kernel_rfl) (fun k => by kernel_rfl) (fun k xs => by kernel_rfl) (fun k xs => by kernel_rfl)
def S149 (k : Nat) (a : List Int) : Option Y0_19 := cloneSem 8 3 (.int .i64) k (a, ())
def F149 : Fn := ⟨clonePs 3 (.int .i64), cloneRs 3 (.int .i64), cloneSem 8 3 (.int .i64)⟩
theorem ok149 : O 149 F149 := clone_ok E0_ok mix Tryz.func149 rfl (by kernel_rfl) (by kernel_rfl) (fun k => by kernel_rfl) (fun k xs => by kernel_rfl) (fun k xs => by kernel_rfl)
def S174 (k : Nat) (a b : Int) : Option Y0_15 :=
 some ((a == b, ()), ())
def F174 : Fn := ⟨[pI, u0_20], [rB], fun k x => S174 k x.1 x.2.1⟩
theorem ok174 : O 174 F174 := okF Oz [] On Tryz.func174 rfl
abbrev c118c_L2 : Cut := ⟨[0, 1, 7, 8], [.cell Y0_18, .clo 174 [.ref (.int .i64)], cI, cI], [], 19, []⟩
def l118c_2 (k : Nat) (g2 : (List Int) → Int → Int → Int → Option Y0_11) (a : List Int) (b c e : Int) : Option Y0_11 :=
 (bif decide (e < c) then
  ix a e <|
  (S174 k (rd a e 0) b).bind fun q0 =>
  (bif q0.1.1 then
   some ((e, ()), ())
  else
   g2 a b c (IntKind.i64.wrap (e + 1)))
 else
  some (((-1), ()), ()))
def b118c_2 (k : Nat) : Xx (((Unit) × (List Int) × Y0_54 × Int × Int × Unit) → Option Y0_11) := iV (iU (iL (iN (iL iE) (iL (iL iE))))) (l118c_2 k)
def L118c_2 (k a : Nat) (b : List Int) (c e f : Int) : Option Y0_11 := iter c118c_L2 (b118c_2 k) a ((), b, (c, ()), e, f, ())
def S118c (k : Nat) (a : List Int) (b : Int) : Option Y0_11 :=
 L118c_2 k k a b (a.length : Int) 0
def F118c : Fn := ⟨[u0_6, .pv (.clo 174 [.ref (.int .i64)])], [rI], fun k x => S118c k x.1 x.2.1.1⟩
theorem ok118c : O 118 F118c := okF (Om ok174 Oz) [] (fun k => (.loop 2 c118c_L2 (b118c_2 k) (fun g => .nil) .nil)) Tryz.func118 rfl
abbrev c173_L5 : Cut := ⟨[0, 1, 5, 6], [.pin true 0, .clo 174 [.ref (.int .i64)], cI, cI], [.mrow 3 (.int .i64)], 42, []⟩
def l173_5 (k : Nat) (g5 : (List Int) → Int → Int → Int → Option Y0_19) (a : List Int) (b c e : Int) : Option Y0_19 :=
 (bif decide (e < (a.length : Int)) then
  ix a e <|
  (S174 k (rd a e 0) b).bind fun q1 =>
  (bif !q1.1.1 then
   ix a c <|
   g5 (upd a c (rd a e 0)) b (IntKind.i64.wrap (c + 1)) (IntKind.i64.wrap (e + 1))
  else
   g5 a b c (IntKind.i64.wrap (e + 1)))
 else
  sx a c (a.length : Int) <|
  sx (clr a c (a.length : Int) 0) 0 c <|
  some (((clr a c (a.length : Int) 0).take c.toNat, ()), ()))
def b173_5 (k : Nat) : Xx ((((List Int) × Unit) × Unit × Y0_54 × Int × Int × Unit) → Option Y0_19) := iV (iN (iL iE) (iU (iN (iL iE) (iL (iL iE))))) (l173_5 k)
def L173_5 (k a : Nat) (b : List Int) (c e f : Int) : Option Y0_19 := iter c173_L5 (b173_5 k) a ((b, ()), (), (c, ()), e, f, ())
def S173 (k : Nat) (a : List Int) (b : Int) : Option Y0_19 :=
 (S118c k a b).bind fun q0 =>
 (bif q0.1.1 == (-1) then
  some ((a, ()), ())
 else
  L173_5 k k a b q0.1.1 (IntKind.i64.wrap (q0.1.1 + 1)))
def F173 : Fn := ⟨[.give 3 (.int .i64), .pv (.clo 174 [.ref (.int .i64)])], [u0_9], fun k x => S173 k x.1 x.2.1.1⟩
theorem ok173 : O 173 F173 := okF (Om ok118c <| Om ok174 Oz) [(41, 1)] (fun k => (.loop 5 c173_L5 (b173_5 k) (fun g => .nil) .nil)) Tryz.func173 rfl
def S138 (k : Nat) (a : Int × Int × Int × Int × Y0_50 × Y0_50 × (List Int) × Bool) (b : Int) : Option ((Y0_3 × Unit) × Unit) :=
 (S172 k a.2.2.2.2.1.2.2.1).bind fun q0 =>
 (S172 k a.2.2.2.2.2.1.2.2.1).bind fun q1 =>
 (S149 k a.2.2.2.2.2.2.1).bind fun q2 =>
 (S173 k q2.1.1 b).bind fun q3 =>
 some (((a.1, a.2.1, a.2.2.1, a.2.2.2.1, (a.2.2.2.2.1.1, a.2.2.2.2.1.2.1, q0.1.1, a.2.2.2.2.1.2.2.2), (a.2.2.2.2.2.1.1, a.2.2.2.2.2.1.2.1, q1.1.1, a.2.2.2.2.2.1.2.2.2), q3.1.1, a.2.2.2.2.2.2.2), ()), ())
def F138 : Fn := ⟨[.val ⟨true, Y0_2, false⟩, pI], [.val ⟨true, Y0_2, true⟩], fun k x => S138 k x.1 x.2.1⟩
theorem ok138 : O 138 F138 := okF (Om ok149 <| Om ok172 <| Om ok173 Oz) [] On Tryz.func138 rfl
def S150 (k : Nat) (a : List Bool) : Option (((List Bool) × Unit) × Unit) := cloneSem 1 4 .bool k (a, ())
def F150 : Fn := ⟨clonePs 4 .bool, cloneRs 4 .bool, cloneSem 1 4 .bool⟩
theorem ok150 : O 150 F150 := clone_ok E0_ok mix Tryz.func150 rfl (by kernel_rfl) (by kernel_rfl) (fun k => by kernel_rfl) (fun k xs => by kernel_rfl) (fun k xs => by kernel_rfl)
def S186 (k : Nat) (a : List Int) : Option Y0_19 := cloneSem 8 2 (.int .i64) k (a, ())
def F186 : Fn := ⟨clonePs 2 (.int .i64), cloneRs 2 (.int .i64), cloneSem 8 2 (.int .i64)⟩
theorem ok186 : O 186 F186 := clone_ok E0_ok mix Tryz.func186 rfl (by kernel_rfl) (by kernel_rfl) (fun k => by kernel_rfl) (fun k xs => by kernel_rfl) (fun k xs => by kernel_rfl)
def S167 (k : Nat) (a : Y0_31) : Option Y0_32 := cloneSem 16 221 Y0_56 k (a, ())
def F167 : Fn := ⟨clonePs 221 Y0_56, cloneRs 221 Y0_56, cloneSem 16 221 Y0_56⟩
theorem ok167 : O 167 F167 := clone_ok E0_ok mix Tryz.func167 rfl (by kernel_rfl) (by kernel_rfl) (fun k => by kernel_rfl) (fun k xs => by kernel_rfl) (fun k xs => by kernel_rfl)
def S151 (k : Nat) (x : Y0_41) : Option ((Y0_4 × Unit) × Unit) :=
 (S186 k x.2.2.2.1.1).bind fun q0 =>
 (S149 k x.2.2.2.1.2).bind fun q1 =>
 (S167 k x.2.2.2.2.1.2).bind fun q2 =>
 some (((x.1, x.2.1, x.2.2.1, (q0.1.1, q1.1.1), (x.2.2.2.2.1.1, q2.1.1), x.2.2.2.2.2), ()), ())
def F151 : Fn := ⟨[u0_19], [.val ⟨true, Y0_5, true⟩], fun k x => S151 k x.1⟩
theorem ok151 : O 151 F151 := okF (Om ok149 <| Om ok167 <| Om ok186 Oz) [] On Tryz.func151 rfl
abbrev c104_L3 : Cut := ⟨[2, 3, 17, 18, 19], [.box 63 [.nil, .nil, .nil], .box 63 [.own 3 (.int .i64), .own 4 .bool, .own 177 Y0_5], .cell Y0_72, cI, cI], [], 32, []⟩
def l104_3 (k : Nat) (g3 : (List Int) → (List Bool) → (List Y0_4) → (List Y0_4) → Int → Int → Option Y0_45) (a : List Int) (b : List Bool) (c e : List Y0_4) (f h : Int) : Option Y0_45 :=
 (bif decide (h < f) then
  ix e h <|
  (S151 k (rd e h (0, (0, 0), (0, 0), ([], []), (0, []), 0))).bind fun q2 =>
  ap c ([q2.1.1] : List Y0_4) 128 fun r3 =>
  g3 a b r3 e f (IntKind.i64.wrap (h + 1))
 else
  some ((((a, b), c), ()), ()))
def b104_3 (k : Nat) : Xx (((Unit) × (Unit × Unit × Unit × Unit) × Y0_62 × (List Y0_4) × Int × Int × Unit) → Option Y0_45) := iV (iU (iN (iU (iU (iU iE))) (iN (iL (iL (iL iE))) (iL (iL (iL iE)))))) (l104_3 k)
def L104_3 (k a : Nat) (b : List Int) (c : List Bool) (e f : List Y0_4) (h i : Int) : Option Y0_45 := iter c104_L3 (b104_3 k) a ((), ((), (), (), ()), (b, c, e, ()), f, h, i, ())
def S104 (k : Nat) (a : Y0_26 × List Y0_4) : Option Y0_45 :=
 (S149 k a.1.1).bind fun q0 =>
 (S150 k a.1.2).bind fun q1 =>
 L104_3 k k q0.1.1 q1.1.1 ([] : List Y0_4) a.2 (a.2.length : Int) 0
def F104 : Fn := ⟨[u0_10], [u0_15], fun k x => S104 k x.1⟩
theorem ok104 : O 104 F104 := okF (Om ok149 <| Om ok150 <| Om ok151 Oz) [(15, 2)] (fun k => (.loop 3 c104_L3 (b104_3 k) (fun g => .nil) .nil)) Tryz.func104 rfl
def S105 (k : Nat) (a : Y0_26 × List Y0_4) (b : Int) : Option Y0_15 :=
 (bif decide (b ≥ 0) then
  (bif decide (b < (a.2.length : Int)) then
   ix a.2 b <|
   some (((rd a.2 b (0, (0, 0), (0, 0), ([], []), (0, []), 0)).1 != 0, ()), ())
  else
   some ((false, ()), ()))
 else
  some ((false, ()), ()))
def F105 : Fn := ⟨[u0_10, pI], [rB], fun k x => S105 k x.1 x.2.1⟩
theorem ok105 : O 105 F105 := okF Oz [] On Tryz.func105 rfl
abbrev c192_L6 : Cut := ⟨[3, 6, 7, 8, 9, 10], [.cell (.int .u32), .cell (.int .u64), cI, .cell Y0_63, cI, cI], [], 34, []⟩
def l192_6 (k : Nat) (g3 : Y0_46) (g6 : Int → Int → Int → (List Int) → Int → Int → Option Y0_11) (a b c : Int) (e : List Int) (f h : Int) : Option Y0_11 :=
 (bif decide (c < 8) then
  g6 (ixor .u32 (ior .u32 (ishl .u32 a 5) (ishr .u32 a 27)) (IntKind.u32.wrap (IntKind.u8.wrap b))) (ishr .u64 b 8) (IntKind.i64.wrap (c + 1)) e f h
 else
  g3 a e f (IntKind.i64.wrap (h + 1)))
def b192_6 (k : Nat) (g3 : Y0_46) : Xx (((Unit) × Int × Int × Int × (List Int) × Int × Int × Unit) → Option Y0_11) := iV (iU (iL (iL (iL (iL (iL (iL iE))))))) (l192_6 k g3)
def L192_6 (k : Nat) (g3 : Y0_46) (a : Nat) (b c e : Int) (f : List Int) (h i : Int) : Option Y0_11 := iter c192_L6 (b192_6 k g3) a ((), b, c, e, f, h, i, ())
abbrev c192_L3 : Cut := ⟨[3, 8, 9, 10], [.cell (.int .u32), .cell Y0_63, cI, cI], [], 34, []⟩
def l192_3 (k : Nat) (g3 : Y0_46) (a : Int) (b : List Int) (c e : Int) : Option Y0_11 :=
 (bif decide (e < c) then
  ix b e <|
  L192_6 k g3 k a (IntKind.u64.wrap (rd b e 0)) 0 b c e
 else
  some ((a, ()), ()))
def b192_3 (k : Nat) : Xx (((Unit) × Int × (List Int) × Int × Int × Unit) → Option Y0_11) := iV (iU (iL (iL (iL (iL iE))))) (l192_3 k)
def L192_3 (k a : Nat) (b : Int) (c : List Int) (e f : Int) : Option Y0_11 := iter c192_L3 (b192_3 k) a ((), b, c, e, f, ())
def S192 (k : Nat) (a : List Int) : Option Y0_11 :=
 L192_3 k k 2166136261 a (a.length : Int) 0
def F192 : Fn := ⟨[.val ⟨false, Y0_63, false⟩], [.val ⟨false, (.int .u32), true⟩], fun k x => S192 k x.1⟩
theorem ok192 : O 192 F192 := okF Oz [] (fun k => (.loop 3 c192_L3 (b192_3 k) (fun g => (fun (g3 : Y0_46) => (.loop 6 c192_L6 (b192_6 k g3) (fun g => .nil) .nil)) (fun h t8 t9 t10 => g ((), h, t8, t9, t10, ()))) .nil)) Tryz.func192 rfl
abbrev c165_L11 : Cut := ⟨[3, 61, 62, 63], [.own 2 (.int .i64), .cell (.sl 221 Y0_56), cI, cI], [], 78, []⟩
def l165_11 (k : Nat) (g11 : (List Int) → Y0_14 → Int → Int → Option Y0_11) (a : List Int) (b : Y0_31) (c e : Int) : Option Y0_11 :=
 (bif decide (e < c) then
  ix b e <|
  ap a ([(rd b e (0, 0)).1, IntKind.i64.wrap (rd b e (0, 0)).2] : List Int) 8 fun r4 =>
  g11 r4 b c (IntKind.i64.wrap (e + 1))
 else
  (S192 k a).bind fun q5 =>
  some ((q5.1.1, ()), ()))
def b165_11 (k : Nat) : Xx (((Unit) × (List Int) × Y0_14 × Int × Int × Unit) → Option Y0_11) := iV (iU (iL (iL (iL (iL iE))))) (l165_11 k)
def L165_11 (k a : Nat) (b : List Int) (c : Y0_31) (e f : Int) : Option Y0_11 := iter c165_L11 (b165_11 k) a ((), b, c, e, f, ())
abbrev c165_L5 : Cut := ⟨[1, 3, 41, 42, 43], [.box 177 [cI, cI, cI, cI, cI, .cell Y0_63, .cell Y0_18, .cell (.int .u32), .cell (.sl 221 Y0_56), .cell (.int .u32)], .own 2 (.int .i64), .cell Y0_18, cI, cI], [], 78, []⟩
def l165_5 (k : Nat) (g5 : Int → Int → Int → Int → Int → (List Int) → (List Int) → Int → Y0_14 → Int → (List Int) → (List Int) → Int → Int → Option Y0_11) (a b c e f : Int) (h i : List Int) (l : Int) (m : Y0_31) (n : Int) (o p : List Int) (s t : Int) : Option Y0_11 :=
 (bif decide (t < s) then
  ix p t <|
  ap o ([rd p t 0] : List Int) 8 fun r2 =>
  g5 a b c e f h i l m n r2 p s (IntKind.i64.wrap (t + 1))
 else
  ap o ([IntKind.i64.wrap l] : List Int) 8 fun r3 =>
  L165_11 k k r3 m (m.length : Int) 0)
def b165_5 (k : Nat) : Xx (((Unit) × (Int × Int × Int × Int × Int × (List Int) × (List Int) × Int × Y0_14 × Int × Unit) × (List Int) × (List Int) × Int × Int × Unit) → Option Y0_11) := iV (iU (iN (iL (iL (iL (iL (iL (iL (iL (iL (iL (iL iE)))))))))) (iL (iL (iL (iL iE)))))) (l165_5 k)
def L165_5 (k a : Nat) (b c e f h : Int) (i l : List Int) (m : Int) (n : Y0_31) (o : Int) (p s : List Int) (t u : Int) : Option Y0_11 := iter c165_L5 (b165_5 k) a ((), (b, c, e, f, h, i, l, m, n, o, ()), p, s, t, u, ())
def S165 (k : Nat) (x : Y0_41) : Option Y0_11 :=
 ap ([x.1, x.2.1.1, x.2.1.2, x.2.2.1.1, x.2.2.1.2, (x.2.2.2.1.1.length : Int)] : List Int) x.2.2.2.1.1 8 fun r0 =>
 ap r0 ([(x.2.2.2.1.2.length : Int)] : List Int) 8 fun r1 =>
 L165_5 k k x.1 x.2.1.1 x.2.1.2 x.2.2.1.1 x.2.2.1.2 x.2.2.2.1.1 x.2.2.2.1.2 x.2.2.2.2.1.1 x.2.2.2.2.1.2 x.2.2.2.2.2 r1 x.2.2.2.1.2 (x.2.2.2.1.2.length : Int) 0
def F165 : Fn := ⟨[u0_19], [.val ⟨false, (.int .u32), true⟩], fun k x => S165 k x.1⟩
theorem ok165 : O 165 F165 := okF (Om ok192 Oz) [] (fun k => (.loop 11 c165_L11 (b165_11 k) (fun g => .nil) (.loop 5 c165_L5 (b165_5 k) (fun g => .nil) .nil))) Tryz.func165 rfl
def S159 (k : Nat) (x : Y0_41) : Option ((Y0_4 × Unit) × Unit) :=
 (S165 k x).bind fun q0 =>
 some (((x.1, x.2.1, x.2.2.1, x.2.2.2.1, x.2.2.2.2.1, q0.1.1), ()), ())
def F159 : Fn := ⟨[u0_19], [.val ⟨true, Y0_5, false⟩], fun k x => S159 k x.1⟩
theorem ok159 : O 159 F159 := okF (Om ok165 Oz) [] On Tryz.func159 rfl
def S130 (k : Nat) (a : Y0_26 × List Y0_4) (b : Int) (x : Y0_41) : Option Y0_45 :=
 (S104 k a).bind fun q0 =>
 (S105 k a b).bind fun q1 =>
 (bif !q1.1.1 then
  some ((q0.1.1, ()), ())
 else
  ix a.2 b <|
  (S151 k ((rd a.2 b (0, (0, 0), (0, 0), ([], []), (0, []), 0)).1, (rd a.2 b (0, (0, 0), (0, 0), ([], []), (0, []), 0)).2.1, x.2.2)).bind fun q2 =>
  (S159 k q2.1.1).bind fun q3 =>
  (S165 k (rd a.2 b (0, (0, 0), (0, 0), ([], []), (0, []), 0))).bind fun q4 =>
  (bif (rd a.2 b (0, (0, 0), (0, 0), ([], []), (0, []), 0)).2.2.2.2.2 != q4.1.1 then
   ix q0.1.1.2 b <|
   some (((q0.1.1.1, upd q0.1.1.2 b (q3.1.1.1, q3.1.1.2.1, q3.1.1.2.2.1, q3.1.1.2.2.2.1, q3.1.1.2.2.2.2.1, inot .u32 q3.1.1.2.2.2.2.2)), ()), ())
  else
   ix q0.1.1.2 b <|
   some (((q0.1.1.1, upd q0.1.1.2 b q3.1.1), ()), ())))
def F130 : Fn := ⟨[u0_10, pI, u0_19], [u0_15], fun k (a, b, c, _) => S130 k a b c⟩
theorem ok130 : O 130 F130 := okF (Om ok104 <| Om ok105 <| Om ok151 <| Om ok159 <| Om ok165 Oz) [] On Tryz.func130 rfl
def S175 (k : Nat) (a : Y0_70) : Option ((Y0_26 × Unit) × Unit) :=
 (S149 k a.1).bind fun q0 =>
 (S150 k a.2).bind fun q1 =>
 some (((q0.1.1, q1.1.1), ()), ())
def F175 : Fn := ⟨[u0_11], [u0_14], fun k x => S175 k x.1⟩
theorem ok175 : O 175 F175 := okF (Om ok149 <| Om ok150 Oz) [] On Tryz.func175 rfl
def S139 (k : Nat) (a : Y0_70) (b : Int) : Option ((Y0_26 × Unit) × Unit) :=
 (S175 k a).bind fun q0 =>
 (bif decide (b ≥ 0) then
  (bif decide (b < (q0.1.1.1.length : Int)) then
   ix q0.1.1.1 b <|
   some (((upd q0.1.1.1 b 0, q0.1.1.2), ()), ())
  else
   some ((q0.1.1, ()), ()))
 else
  some ((q0.1.1, ()), ()))
def F139 : Fn := ⟨[u0_11, pI], [u0_14], fun k x => S139 k x.1 x.2.1⟩
theorem ok139 : O 139 F139 := okF (Om ok175 Oz) [] On Tryz.func139 rfl
abbrev c99_L8 : Cut := ⟨[1, 2, 54, 55], [.box 67 [cI, cI, .own 30 Y0_1, .own 43 Y0_37, .cell .bool, .cell .bool, .cell .bool, .own 184 Y0_2, .cell Y0_18, .cell Y0_60, .cell Y0_72, .cell Y0_18, .cell Y0_60], .box 67 [cI, cI, .nil, .nil, .cell .bool, .cell .bool, .cell .bool, .nil, .nil, .nil, .nil, .nil, .nil], cI, cI], [], 77, [(53, 3)]⟩
def l99_8 (k : Nat) (g8 : Y0_43) (a b : Int) (c : List Y0_0) (e : List (PN Int 5)) (f h i : Bool) (l : List Y0_3) (m : List Int) (n : List Bool) (o : List Y0_4) (p : List Int) (s : List Bool) (t u : Int) (v w y : Bool) (z A : Int) : Option Y0_58 :=
 (bif decide (A < z) then
  ix l A <|
  (S138 k (rd l A (0, 0, 0, 0, (0, prep (α := Int) 8 0, [], false), (0, prep (α := Int) 8 0, [], false), [], false)) (-1)).bind fun q7 =>
  ix l A <|
  g8 a b c e f h i (upd l A q7.1.1) m n o p s t u v w y z (IntKind.i64.wrap (A + 1))
 else
  (S130 k ((m, n), o) (-1) (0, (0, 0), (0, 0), ([], []), (0, []), 0)).bind fun q8 =>
  (S139 k (p, s) (-1)).bind fun q9 =>
  some (((a, b, c, e, f, h, i, l, q8.1.1, q9.1.1), ()), ()))
def b99_8 (k : Nat) : Xx (((Unit) × Y0_9 × Y0_21 × Int × Int × Unit) → Option Y0_58) := iV (iU (iN (iL (iL (iL (iL (iL (iL (iL (iL (iL (iL (iL (iL (iL iE))))))))))))) (iN (iL (iL (iU (iU (iL (iL (iL (iU (iU (iU (iU (iU (iU iE))))))))))))) (iL (iL iE))))) (l99_8 k)
def L99_8 (k a : Nat) (b c : Int) (e : List Y0_0) (f : List (PN Int 5)) (h i l : Bool) (m : List Y0_3) (n : List Int) (o : List Bool) (p : List Y0_4) (s : List Int) (t : List Bool) (u v : Int) (w y z : Bool) (A B : Int) : Option Y0_58 := iter c99_L8 (b99_8 k) a ((), (b, c, e, f, h, i, l, m, n, o, p, s, t, ()), (u, v, (), (), w, y, z, (), (), (), (), (), (), ()), A, B, ())
abbrev c99_L3 : Cut := ⟨[1, 2, 21, 22], [.box 67 [cI, cI, .own 30 Y0_1, .own 43 Y0_37, .cell .bool, .cell .bool, .cell .bool, .own 184 Y0_2, .cell Y0_18, .cell Y0_60, .cell Y0_72, .cell Y0_18, .cell Y0_60], .box 67 [cI, cI, .nil, .nil, .cell .bool, .cell .bool, .cell .bool, .nil, .nil, .nil, .nil, .nil, .nil], cI, cI], [], 77, [(20, 1)]⟩
def l99_3 (k : Nat) (g3 : Y0_43) (a b : Int) (c : List Y0_0) (e : List (PN Int 5)) (f h i : Bool) (l : List Y0_3) (m : List Int) (n : List Bool) (o : List Y0_4) (p : List Int) (s : List Bool) (t u : Int) (v w y : Bool) (z A : Int) : Option Y0_58 :=
 (bif decide (A < z) then
  ix c A <|
  (S38 k (rd c A (0, 0, 0, [], [], [])).2.2.2.1).bind fun q3 =>
  (S38 k (rd c A (0, 0, 0, [], [], [])).2.2.2.2.1).bind fun q4 =>
  (S38 k (rd c A (0, 0, 0, [], [], [])).2.2.2.2.2).bind fun q5 =>
  ix c A <|
  ix (upd c A ((rd c A (0, 0, 0, [], [], [])).1, (rd c A (0, 0, 0, [], [], [])).2.1, (rd c A (0, 0, 0, [], [], [])).2.2.1, q3.1.1, (rd c A (0, 0, 0, [], [], [])).2.2.2.2)) A <|
  let r6 : List Y0_0 := upd (upd c A ((rd c A (0, 0, 0, [], [], [])).1, (rd c A (0, 0, 0, [], [], [])).2.1, (rd c A (0, 0, 0, [], [], [])).2.2.1, q3.1.1, (rd c A (0, 0, 0, [], [], [])).2.2.2.2)) A ((rd (upd c A ((rd c A (0, 0, 0, [], [], [])).1, (rd c A (0, 0, 0, [], [], [])).2.1, (rd c A (0, 0, 0, [], [], [])).2.2.1, q3.1.1, (rd c A (0, 0, 0, [], [], [])).2.2.2.2)) A (0, 0, 0, [], [], [])).1, (rd (upd c A ((rd c A (0, 0, 0, [], [], [])).1, (rd c A (0, 0, 0, [], [], [])).2.1, (rd c A (0, 0, 0, [], [], [])).2.2.1, q3.1.1, (rd c A (0, 0, 0, [], [], [])).2.2.2.2)) A (0, 0, 0, [], [], [])).2.1, (rd (upd c A ((rd c A (0, 0, 0, [], [], [])).1, (rd c A (0, 0, 0, [], [], [])).2.1, (rd c A (0, 0, 0, [], [], [])).2.2.1, q3.1.1, (rd c A (0, 0, 0, [], [], [])).2.2.2.2)) A (0, 0, 0, [], [], [])).2.2.1, (rd (upd c A ((rd c A (0, 0, 0, [], [], [])).1, (rd c A (0, 0, 0, [], [], [])).2.1, (rd c A (0, 0, 0, [], [], [])).2.2.1, q3.1.1, (rd c A (0, 0, 0, [], [], [])).2.2.2.2)) A (0, 0, 0, [], [], [])).2.2.2.1, q4.1.1, (rd (upd c A ((rd c A (0, 0, 0, [], [], [])).1, (rd c A (0, 0, 0, [], [], [])).2.1, (rd c A (0, 0, 0, [], [], [])).2.2.1, q3.1.1, (rd c A (0, 0, 0, [], [], [])).2.2.2.2)) A (0, 0, 0, [], [], [])).2.2.2.2.2)
  ix r6 A <|
  g3 a b (upd r6 A ((rd r6 A (0, 0, 0, [], [], [])).1, (rd r6 A (0, 0, 0, [], [], [])).2.1, (rd r6 A (0, 0, 0, [], [], [])).2.2.1, (rd r6 A (0, 0, 0, [], [], [])).2.2.2.1, (rd r6 A (0, 0, 0, [], [], [])).2.2.2.2.1, q5.1.1)) e f h i l m n o p s t u v w y z (IntKind.i64.wrap (A + 1))
 else
  L99_8 k k a b c e f h i l m n o p s t u v w y (l.length : Int) 0)
def b99_3 (k : Nat) : Xx (((Unit) × Y0_9 × Y0_21 × Int × Int × Unit) → Option Y0_58) := iV (iU (iN (iL (iL (iL (iL (iL (iL (iL (iL (iL (iL (iL (iL (iL iE))))))))))))) (iN (iL (iL (iU (iU (iL (iL (iL (iU (iU (iU (iU (iU (iU iE))))))))))))) (iL (iL iE))))) (l99_3 k)
def L99_3 (k a : Nat) (b c : Int) (e : List Y0_0) (f : List (PN Int 5)) (h i l : Bool) (m : List Y0_3) (n : List Int) (o : List Bool) (p : List Y0_4) (s : List Int) (t : List Bool) (u v : Int) (w y z : Bool) (A B : Int) : Option Y0_58 := iter c99_L3 (b99_3 k) a ((), (b, c, e, f, h, i, l, m, n, o, p, s, t, ()), (u, v, (), (), w, y, z, (), (), (), (), (), (), ()), A, B, ())
def S99 (k : Nat) (a : Y0_20) : Option Y0_58 :=
 (S135 k a.2.2.1).bind fun q0 =>
 (S136 k a.2.2.2.1).bind fun q1 =>
 (S137 k a.2.2.2.2.2.2.2.1).bind fun q2 =>
 L99_3 k k a.1 a.2.1 q0.1.1 q1.1.1 a.2.2.2.2.1 a.2.2.2.2.2.1 a.2.2.2.2.2.2.1 q2.1.1 a.2.2.2.2.2.2.2.2.1.1.1 a.2.2.2.2.2.2.2.2.1.1.2 a.2.2.2.2.2.2.2.2.1.2 a.2.2.2.2.2.2.2.2.2.1 a.2.2.2.2.2.2.2.2.2.2 0 0 false false false (q0.1.1.length : Int) 0
def F99 : Fn := ⟨[u0_12], [u0_16], fun k x => S99 k x.1⟩
theorem ok99 : O 99 F99 := okF (Om ok38 <| Om ok130 <| Om ok135 <| Om ok136 <| Om ok137 <| Om ok138 <| Om ok139 Oz) [] (fun k => (.loop 8 c99_L8 (b99_8 k) (fun g => .nil) (.loop 3 c99_L3 (b99_3 k) (fun g => .nil) .nil))) Tryz.func99 rfl
def S153 (k : Nat) (a : Int × Int × Int × Int × Y0_50 × Y0_50 × (List Int) × Bool) (b : Int) : Option Y0_11 :=
 some ((IntKind.i64.wrap (a.1 - b), ()), ())
def F153 : Fn := ⟨[.val ⟨true, Y0_2, false⟩, pI], [rI], fun k x => S153 k x.1 x.2.1⟩
theorem ok153 : O 153 F153 := okF Oz [] On Tryz.func153 rfl
abbrev c152_L3 : Cut := ⟨[0, 1, 2, 8, 9, 10], [.cell (.sl 184 Y0_2), cI, .clo 153 [], cI, cI, cI], [], 49, []⟩
def l152_3 (k : Nat) (g3 : (List Y0_3) → Int → Int → Int → Int → Option Y0_34) (a : List Y0_3) (b c e f : Int) : Option Y0_34 :=
 (bif decide (e < f) then
  ix a (IntKind.i64.wrap (ishr .u64 (IntKind.u64.wrap (IntKind.i64.wrap (e + f))) 1)) <|
  (S153 k (rd a (IntKind.i64.wrap (ishr .u64 (IntKind.u64.wrap (IntKind.i64.wrap (e + f))) 1)) (0, 0, 0, 0, (0, prep (α := Int) 8 0, [], false), (0, prep (α := Int) 8 0, [], false), [], false)) b).bind fun q0 =>
  (bif decide (q0.1.1 < 0) then
   g3 a b c (IntKind.i64.wrap ((IntKind.i64.wrap (ishr .u64 (IntKind.u64.wrap (IntKind.i64.wrap (e + f))) 1)) + 1)) f
  else
   g3 a b c e (IntKind.i64.wrap (ishr .u64 (IntKind.u64.wrap (IntKind.i64.wrap (e + f))) 1)))
 else
  (bif decide (e < c) then
   ix a e <|
   (S153 k (rd a e (0, 0, 0, 0, (0, prep (α := Int) 8 0, [], false), (0, prep (α := Int) 8 0, [], false), [], false)) b).bind fun q1 =>
   some ((e, q1.1.1 == 0, ()), ())
  else
   some ((e, false, ()), ())))
def b152_3 (k : Nat) : Xx (((Unit) × (List Y0_3) × Int × Unit × Int × Int × Int × Unit) → Option Y0_34) := iV (iU (iL (iL (iU (iL (iL (iL iE))))))) (l152_3 k)
def L152_3 (k a : Nat) (b : List Y0_3) (c e f h : Int) : Option Y0_34 := iter c152_L3 (b152_3 k) a ((), b, c, (), e, f, h, ())
def S152 (k : Nat) (x : List Y0_3) (a : Int) : Option Y0_34 :=
 L152_3 k k x a (x.length : Int) 0 (x.length : Int)
def F152 : Fn := ⟨[.val ⟨false, (.sl 184 Y0_2), false⟩, pI, .pv (.clo 153 [])], [rI, rB], fun k x => S152 k x.1 x.2.1⟩
theorem ok152 : O 152 F152 := okF (Om ok153 Oz) [] (fun k => (.loop 3 c152_L3 (b152_3 k) (fun g => .nil) .nil)) Tryz.func152 rfl
def S106 (k : Nat) (a : Y0_20) (b : Int) : Option Y0_34 :=
 (S152 k a.2.2.2.2.2.2.2.1 b).bind fun q0 =>
 some (q0.1, ())
def F106 : Fn := ⟨[.pv (.ref Y0_10), pI], [rI, rB], fun k x => S106 k x.1 x.2.1⟩
theorem ok106 : O 106 F106 := okF (Om ok152 Oz) [] On Tryz.func106 rfl
section
variable (w : World) {g n c i j : Nat}
theorem delF107_t : Tryz.prog.underlying 56 = some (.slice 184) ∧ Tryz.prog.underlying 3 = some (.int .i64) ∧ Tryz.prog.underlying 4 = some .bool ∧ Tryz.prog.follows .mixedOrders = true ∧ (∀ w, (Go.sizeOf 184).run Tryz.prog w = .ok 28 w) ∧ Tryz.f107.ntmps = 33 := ⟨by kernel_rfl, by kernel_rfl, by kernel_rfl, by kernel_rfl, fun w => by kernel_rfl, rfl⟩
theorem delF107_none {v : Value} (hv : (∃ A n c, v = .slice A n c ∧ i ≤ n ∧ n ≤ c ∧ c ≤ 9223372036854775807)) : Calls Tryz.prog 107 #[v, .int .i64 i, .int .i64 i] w fun e w' => e = .returned v ∧ w' = w := by
 obtain ⟨t24, t3, t4, mixed, z36, hnt⟩ := delF107_t
 have u24 := run_underlying t24; have u3 := run_underlying t3; have u4 := run_underlying t4
 obtain ⟨A, n, c, rfl, hi, hnc, hc63⟩ := hv
 have hi0 : (i : Int) ≤ (n : Int) := by omega
 have hi1 : (0 : Int) ≤ (i : Int) := by omega
 cases A <;> (go_enter Tryz.func107, hnt; go_wp2 <;> (go_ret; exact ⟨rfl, rfl⟩))
theorem delF107_some {w' w'' : World} (hlt : i < j) (hj : j ≤ n) (hnc : n ≤ c) (hc63 : c ≤ 9223372036854775807)
  (hap : ∀ ty A, (c ≠ j → A = (⟨g, j * 28, none⟩ : Addr)) → (Builtin.append_ #[56, 56] ty #[.slice (some ⟨g, 0, none⟩) i c, .slice (some A) (n - j) (c - j)]).run Tryz.prog w.drew = .ok (.slice (some ⟨g, 0, none⟩) (i + (n - j)) c) w')
  (hcl : ∀ ty dc, (Builtin.clear_ #[56] ty #[.slice (some ⟨g, (i + (n - j)) * 28, none⟩) (n - (i + (n - j))) dc]).run Tryz.prog w' = .ok (.tuple #[]) w'') :
  Calls Tryz.prog 107 #[.slice (some ⟨g, 0, none⟩) n c, .int .i64 i, .int .i64 j] w fun e w1 => e = .returned (.slice (some ⟨g, 0, none⟩) (i + (n - j)) c) ∧ w1 = w'' := by
 obtain ⟨t24, t3, t4, mixed, z36, hnt⟩ := delF107_t
 have u24 := run_underlying t24; have u3 := run_underlying t3; have u4 := run_underlying t4
 have hi0 : (i : Int) ≤ (n : Int) := by omega
 have hj0 : (j : Int) ≤ (n : Int) := by omega
 have hij : (i : Int) ≤ (j : Int) := by omega
 have hne : ¬ ((i : Int) = (j : Int)) := by omega
 have hic : i ≤ c := by omega
 have hjc : j ≤ c := by omega
 have hln : i + (n - j) ≤ n := by omega
 have hlc : i + (n - j) ≤ c := by omega
 have hci : ¬ (c = i + (n - j)) := by omega
 obtain ⟨A, hA, hA'⟩ : ∃ A : Addr, (if c = j then some (⟨g, 0, none⟩ : Addr) else some ⟨g, j * 28, none⟩) = some A ∧ (c ≠ j → A = (⟨g, j * 28, none⟩ : Addr)) := by
  by_cases h : c = j
  · exact ⟨_, if_pos h, fun q => absurd h q⟩
  · exact ⟨_, if_neg h, fun _ => rfl⟩
 try simp only [Nat.mul_one] at hA hcl
 go_enter Tryz.func107, hnt
 go_wp2_with fail
 go_region_law_o (refine append_step rfl rfl _ _ (by simp [Act.eval, Act.put]) (by simp [Act.eval, Act.put, hA]) (hap _ _ hA') ?_)
 go_wp2_with (at_builtin; refine clear_list rfl rfl _ rfl (hcl _ _) ?_)
 go_ret
 exact ⟨rfl, rfl⟩
end
abbrev P107 : List PT := delPs 184 Y0_2
abbrev R107 : List RT := delRs 184 Y0_2
def S107 (k : Nat) (a : List Y0_3) (i j : Int) : Option (((List Y0_3) × Unit) × Unit) := delSem 184 Y0_2 k (a, i, j, ())
def F107 : Fn := ⟨P107, R107, delSem 184 Y0_2⟩
def E107 : Env := tab.env (fun _ => none) (fun _ => 0)
theorem E107_ok : EnvOK Tryz.prog E107 := envOK_of tabOK _ _ (fun f F h => by cases h)
theorem ok107 : O 107 F107 := by
 obtain ⟨i0, z, a1, a2, a3, a4, a5⟩ := (E107_ok.ty 184 (Y0_2) (by kernel_rfl)).info
 have b2 : Ty.sz (Y0_2) = 28 := rfl
 have hz : z.cells.size = 28 := by rw [← Array.length_toList, a5, zeroV_len, b2]
 obtain ⟨t24, t3, t4, mixed, z36, hnt⟩ := delF107_t
 refine del_ok Tryz.func107 rfl (by kernel_rfl) ?_
 rw [b2]
 exact del_all (S := 56) (z := z) t24 a1 a4 (by rw [a2, b2]) hz (fun v hv => zeroV_one (Y0_2) v (by rw [← a5]; exact hv)) (by decide) (fun w i v h => delF107_none w h) (fun w g n c i j w' w'' h1 h2 h3 h4 h5 h6 => delF107_some w h1 h2 h3 h4 h5 h6)
def S156 (k : Nat) (a : Int) : Option ((Y0_50 × Unit) × Unit) :=
 some (((0, (a, 0, 0, 0, 0, 0, 0, 0), [], false), ()), ())
def F156 : Fn := ⟨[pI], [.val ⟨true, (.pair (.int .i64) (.pair (arrT 8 (.int .i64)) (.pair (.sl 270 (.pair (.int .i64) Y0_16)) .bool))), true⟩], fun k x => S156 k x.1⟩
theorem ok156 : O 156 F156 := okF Oz [] On Tryz.func156 rfl
def S109 (k : Nat) (a b c : Int) : Option ((Y0_3 × Unit) × Unit) :=
 (S156 k c).bind fun q0 =>
 (S156 k c).bind fun q1 =>
 some (((a, b, c, 0, q0.1.1, q1.1.1, [], false), ()), ())
def F109 : Fn := ⟨[pI, pI, pI], [.val ⟨true, Y0_2, true⟩], fun k (a, b, c, _) => S109 k a b c⟩
theorem ok109 : O 109 F109 := okF (Om ok156 Oz) [] On Tryz.func109 rfl
section
variable (w : World) {g n c i g2 m c2 : Nat}
theorem insF108_t : Tryz.prog.underlying 56 = some (.slice 184) ∧ Tryz.prog.underlying 3 = some (.int .i64) ∧ Tryz.prog.underlying 4 = some .bool ∧ Tryz.prog.follows .mixedOrders = true ∧ (∀ w, (Go.sizeOf 184).run Tryz.prog w = .ok 28 w) ∧ Tryz.f108.ntmps = 95 := ⟨by kernel_rfl, by kernel_rfl, by kernel_rfl, by kernel_rfl, fun w => by kernel_rfl, rfl⟩
theorem insF108_none {v u : Value} (hv : (∃ A n c, v = .slice A n c ∧ i ≤ n)) (hu : ∃ A c, u = .slice A m c) (hm : m = 0) : Calls Tryz.prog 108 #[v, .int .i64 i, u] w fun e w' => e = .returned v ∧ w' = w := by
 obtain ⟨t24, t3, t4, mixed, z36, hnt⟩ := insF108_t
 have u24 := run_underlying t24; have u3 := run_underlying t3; have u4 := run_underlying t4
 obtain ⟨A, n, c, rfl, hi⟩ := hv
 obtain ⟨A2, c2, rfl⟩ := hu
 have hi0 : (i : Int) ≤ (n : Int) := by omega
 have hz1 : (m : Int) = 0 := by omega
 cases A <;> (go_enter Tryz.func108, hnt; go_wp2 <;> (go_ret; exact ⟨rfl, rfl⟩))
theorem insF108_end {v : Value} {w' : World} {v' : Value} (hv : (∃ A c, v = .slice A n c)) (hm : 0 < m)
  (hr : ∀ ty, (Builtin.append_ #[56, 56] ty #[v, .slice (some ⟨g2, 0, none⟩) m c2]).run Tryz.prog w = .ok v' w') : Calls Tryz.prog 108 #[v, .int .i64 n, .slice (some ⟨g2, 0, none⟩) m c2] w fun e w1 => e = .returned v' ∧ w1 = w' := by
 obtain ⟨t24, t3, t4, mixed, z36, hnt⟩ := insF108_t
 have u24 := run_underlying t24; have u3 := run_underlying t3; have u4 := run_underlying t4
 have hz1 : ¬ ((m : Int) = 0) := by omega
 obtain ⟨A, c, rfl⟩ := hv
 go_enter Tryz.func108, hnt
 go_wp2_with (at_builtin; refine append_list rfl rfl _ _ rfl rfl (hr _) ?_)
 all_goals (go_ret; exact ⟨rfl, rfl⟩)
theorem insF108_shift {v' v'' : Value} {w' w'' : World} (hi : i < n) (hm : 0 < m) (hroom : n + m ≤ c) (hc63 : c ≤ 9223372036854775807)
  (hov : ∀ lb cb, (callFunc 154 #[.slice (some ⟨g2, 0, none⟩) m c2, .slice (some ⟨g, (i + m) * 28, none⟩) lb cb]).run Tryz.prog w = .ok (.value (.bool false)) w)
  (hcp1 : ∀ ty dc sc, (Builtin.copy_ #[56, 56] ty #[.slice (some ⟨g, (i + m) * 28, none⟩) (n + m - (i + m)) dc, .slice (some ⟨g, i * 28, none⟩) (n + m - i) sc]).run Tryz.prog w.drew = .ok v' w')
  (hcp2 : ∀ ty dc, (Builtin.copy_ #[56, 56] ty #[.slice (some ⟨g, i * 28, none⟩) (n + m - i) dc, .slice (some ⟨g2, 0, none⟩) m c2]).run Tryz.prog w' = .ok v'' w'') :
  Calls Tryz.prog 108 #[.slice (some ⟨g, 0, none⟩) n c, .int .i64 i, .slice (some ⟨g2, 0, none⟩) m c2] w fun e w1 => e = .returned (.slice (some ⟨g, 0, none⟩) (n + m) c) ∧ w1 = w'' := by
 obtain ⟨t24, t3, t4, mixed, z36, hnt⟩ := insF108_t
 have u24 := run_underlying t24; have u3 := run_underlying t3; have u4 := run_underlying t4
 have hz1 : ¬ ((m : Int) = 0) := by omega
 have hz2 : ¬ ((i : Int) = (n : Int)) := by omega
 have hw1 : IntKind.i64.wrap ((i : Int) + (m : Int)) = (i : Int) + (m : Int) := by rw [IntKind.wrap_i64]; omega
 have hb1 : (0 : Int) ≤ (i : Int) + (m : Int) := by omega
 have hin : i ≤ n := by omega
 have htn : ((i : Int) + (m : Int)).toNat = i + m := by omega
 have hb2 : ¬ (c = i + m) := by omega
 have hb3 : (i : Int) ≤ (n : Int) + (m : Int) := by omega
 have hb4 : ¬ (c = i) := by omega
 go_enter Tryz.func108, hnt
 go_wp2_with (simp only [hov])
 go_region_law_o (refine copy_step rfl rfl _ _ (by simp [Act.eval, Act.put]) (by simp [Act.eval, Act.put]) (hcp1 _ _ _) ?_)
 go_wp2_with (at_builtin; refine copy_list rfl rfl _ _ rfl rfl (hcp2 _ _) ?_)
 go_ret
 exact ⟨rfl, rfl⟩
theorem insF108_grow {h G : Nat} {v' v'' : Value} {w0 w' w'' : World} (hi : i < n) (hm : 0 < m) (hnc : n ≤ c) (hroom : c < n + m) (hc63 : n + m ≤ 140737488355328) (hG : n + m ≤ G) (hG63 : G ≤ 9223372036854775807)
  (hrz : ∀ ty, (Builtin.append_ #[56, 3] ty #[.slice (some ⟨g, 0, none⟩) i c, .int .i64 ((n : Int) + (m : Int) - (i : Int))]).run Tryz.prog w = .ok (.slice (some ⟨h, 0, none⟩) (n + m) G) w0)
  (hcp1 : ∀ ty dc, (Builtin.copy_ #[56, 56] ty #[.slice (some ⟨h, i * 28, none⟩) (n + m - i) dc, .slice (some ⟨g2, 0, none⟩) m c2]).run Tryz.prog w0 = .ok v' w')
  (hcp2 : ∀ ty dc sc, (Builtin.copy_ #[56, 56] ty #[.slice (some ⟨h, (i + m) * 28, none⟩) (n + m - (i + m)) dc, .slice (some ⟨g, i * 28, none⟩) (n - i) sc]).run Tryz.prog w'.drew = .ok v'' w'') :
  Calls Tryz.prog 108 #[.slice (some ⟨g, 0, none⟩) n c, .int .i64 i, .slice (some ⟨g2, 0, none⟩) m c2] w fun e w1 => e = .returned (.slice (some ⟨h, 0, none⟩) (n + m) G) ∧ w1 = w'' := by
 obtain ⟨t24, t3, t4, mixed, z36, hnt⟩ := insF108_t
 have u24 := run_underlying t24; have u3 := run_underlying t3; have u4 := run_underlying t4
 have hz1 : ¬ ((m : Int) = 0) := by omega
 have hz2 : ¬ ((i : Int) = (n : Int)) := by omega
 have hz3 : (c : Int) < (n : Int) + (m : Int) := by omega
 have hw1 : IntKind.i64.wrap ((i : Int) + (m : Int)) = (i : Int) + (m : Int) := by rw [IntKind.wrap_i64]; omega
 have hb1 : (0 : Int) ≤ (i : Int) + (m : Int) := by omega
 have hin : i ≤ n := by omega
 have htn : ((i : Int) + (m : Int)).toNat = i + m := by omega
 have hGi : ¬ (G = i) := by omega
 have hGim : ¬ (G = i + m) := by omega
 have hci : ¬ (c = i) := by omega
 have hb3 : (i : Int) ≤ (n : Int) := by omega
 go_enter Tryz.func108, hnt
 go_wp2_with (first
  | (at_builtin; refine append_list rfl rfl _ _ rfl rfl (hrz _) ?_)
  | (at_builtin; refine copy_list rfl rfl _ _ rfl rfl (hcp1 _ _) ?_))
 go_region_law_o (refine copy_step rfl rfl _ _ (by simp [Act.eval, Act.put]) (by simp [Act.eval, Act.put]) (hcp2 _ _ _) ?_)
 go_wp2
 go_ret
 exact ⟨rfl, rfl⟩
end
abbrev P108 : List PT := insPs 184 Y0_2
abbrev R108 : List RT := insRs 184 Y0_2
def S108 (k : Nat) (a : List Y0_3) (b : Int) (c : List Y0_3) : Option (((List Y0_3) × Unit) × Unit) := insSem 272 184 Y0_2 k (a, b, c, ())
def F108 : Fn := ⟨P108, R108, insSem 272 184 Y0_2⟩
def E108 : Env := tab.env (fun _ => none) (fun _ => 0)
theorem E108_ok : EnvOK Tryz.prog E108 := envOK_of tabOK _ _ (fun f F h => by cases h)
theorem ok108 : O 108 F108 := by
 obtain ⟨i0, z, a1, a2, a3, a4, a5⟩ := (E108_ok.ty 184 (Y0_2) (by kernel_rfl)).info
 have b1 : E108.byt 184 = 272 := by kernel_rfl
 have b2 : Ty.sz (Y0_2) = 28 := rfl
 rw [b1] at a3
 have hz : z.cells.size = 28 := by rw [← Array.length_toList, a5, zeroV_len, b2]
 obtain ⟨t24, t3, t4, mixed, z36, hnt⟩ := insF108_t
 refine ins_ok Tryz.func108 rfl (by kernel_rfl) ?_
 rw [b2, ← a3]
 refine ins_all (S := 56) (z := z) t24 t3 a1 a4 (by rw [a2, b2]) hz (by decide) (by rw [a3]; decide) (fun w i m v u h1 h2 h3 => insF108_none w h1 h2 h3) (fun w n g2 m c2 v v' w' h1 h2 h3 => insF108_end w h1 h2 h3) (fun w g n c i g2 m c2 v' v'' w' w'' h1 h2 h3 h4 h5 h6 hne hg hg2 => insF108_shift w h1 h2 h3 h4 (fun lb cb => ?_) h5 h6) (fun w g n c i g2 m c2 h G v' v'' w0 w' w'' h1 h2 h3 h4 h5 h6 h7 h8 h9 h10 => insF108_grow w h1 h2 h3 h4 h5 h6 h7 h8 h9 h10)
 obtain ⟨cur, q1, q2⟩ := hg
 obtain ⟨cur2, q3⟩ := hg2
 rw [run_callFunc_extern Tryz.func154 (by kernel_rfl) (by kernel_rfl) (by kernel_rfl) (e := Extern.SlicesOverlaps.overlaps #[56, 56] #[4]) (by kernel_rfl), Lib.run_overlaps_apart w 56 4 184 t24 28 z36 ⟨g2, 0, none⟩ ⟨g, (i + m) * 28, none⟩ m c2 lb cb hne 184 184 cur2.size cur.size (by simp [World.shape?, q3]) (by simp [World.shape?, q1]) q2 (Kd.frozen_row q3 _) (Kd.frozen_row q3 _)]
 rfl
abbrev c60_J17 : Cut := ⟨[1, 2, 3, 6, 9, 10], [cI, cI, .box 67 [cI, cI, .own 30 Y0_1, .own 43 Y0_37, .cell .bool, .cell .bool, .cell .bool, .own 184 Y0_2, .own 3 (.int .i64), .own 4 .bool, .own 177 Y0_5, .own 3 (.int .i64), .own 4 .bool], .box 67 [cI, cI, .nil, .nil, .cell .bool, .cell .bool, .cell .bool, .nil, .nil, .nil, .nil, .nil, .nil], .own 73 Y0_66, cI], [], 98, []⟩
def j60_17 (k : Nat) (a b c e : Int) (f : List Y0_0) (h : List (PN Int 5)) (i l m : Bool) (n : List Y0_3) (o : List Int) (p : List Bool) (s : List Y0_4) (t : List Int) (u : List Bool) (v w : Int) (y z A : Bool) (B : List (PN Int 6)) (C : Int) : Option ((Y0_8 × (List (PN Int 6)) × Int × Unit) × Unit) :=
 (S109 k a c b).bind fun q4 =>
 (S108 k n C ([q4.1.1] : List Y0_3)).bind fun q5 =>
 ap B ([(c, 1, a, 0, b, 0)] : List (PN Int 6)) 48 fun r6 =>
 some (((c, e, f, h, i, l, m, q5.1.1, ((o, p), s), t, u), r6, 0, ()), ())
abbrev c60_J10 : Cut := ⟨[1, 2, 3, 6], [cI, cI, .box 67 [cI, cI, .own 30 Y0_1, .own 43 Y0_37, .cell .bool, .cell .bool, .cell .bool, .own 184 Y0_2, .own 3 (.int .i64), .own 4 .bool, .own 177 Y0_5, .own 3 (.int .i64), .own 4 .bool], .box 67 [cI, cI, .nil, .nil, .cell .bool, .cell .bool, .cell .bool, .nil, .nil, .nil, .nil, .nil, .nil]], [], 98, []⟩
def j60_10 (k : Nat) (a b c e : Int) (f : List Y0_0) (h : List (PN Int 5)) (i l m : Bool) (n : List Y0_3) (o : List Int) (p : List Bool) (s : List Y0_4) (t : List Int) (u : List Bool) (v w : Int) (y z A : Bool) : Option ((Y0_8 × (List (PN Int 6)) × Int × Unit) × Unit) :=
 (S106 k (c, e, f, h, i, l, m, n, ((o, p), s), t, u) a).bind fun q1 =>
 (bif q1.1.2.1 then
  ix n q1.1.1 <|
  (bif (rd n q1.1.1 (0, 0, 0, 0, (0, prep (α := Int) 8 0, [], false), (0, prep (α := Int) 8 0, [], false), [], false)).2.2.2.1 != 2 then
   some (((c, e, f, h, i, l, m, n, ((o, p), s), t, u), [], 5, ()), ())
  else
   ap ([] : List (PN Int 6)) ([(c, 13, a, 0, 0, 0)] : List (PN Int 6)) 48 fun r2 =>
   (S107 k n q1.1.1 (IntKind.i64.wrap (q1.1.1 + 1))).bind fun q3 =>
   j60_17 k a b c e f h i l m q3.1.1 o p s t u v w y z A r2 q1.1.1)
 else
  j60_17 k a b c e f h i l m n o p s t u v w y z A ([] : List (PN Int 6)) q1.1.1)
def S60 (k : Nat) (b : Y0_20) (c e : Int) : Option ((Y0_8 × (List (PN Int 6)) × Int × Unit) × Unit) :=
 (S99 k b).bind fun ((a, _), _) =>
 (bif !a.2.2.2.2.1 then
  some ((a, [], 8, ()), ())
 else
  (bif a.2.2.2.2.2.1 then
   some ((a, [], 17, ()), ())
  else
   (bif decide (c < 0) then
    some ((a, [], 3, ()), ())
   else
    (bif decide (c ≥ (a.2.2.1.length : Int)) then
     some ((a, [], 3, ()), ())
    else
     (bif decide (c < (a.2.2.2.2.2.2.2.2.2.2.length : Int)) then
      ix a.2.2.2.2.2.2.2.2.2.2 c <|
      (bif rd a.2.2.2.2.2.2.2.2.2.2 c false then
       some ((a, [], 6, ()), ())
      else
       j60_10 k c e a.1 a.2.1 a.2.2.1 a.2.2.2.1 a.2.2.2.2.1 a.2.2.2.2.2.1 a.2.2.2.2.2.2.1 a.2.2.2.2.2.2.2.1 a.2.2.2.2.2.2.2.2.1.1.1 a.2.2.2.2.2.2.2.2.1.1.2 a.2.2.2.2.2.2.2.2.1.2 a.2.2.2.2.2.2.2.2.2.1 a.2.2.2.2.2.2.2.2.2.2 0 0 false false false)
     else
      j60_10 k c e a.1 a.2.1 a.2.2.1 a.2.2.2.1 a.2.2.2.2.1 a.2.2.2.2.2.1 a.2.2.2.2.2.2.1 a.2.2.2.2.2.2.2.1 a.2.2.2.2.2.2.2.2.1.1.1 a.2.2.2.2.2.2.2.2.1.1.2 a.2.2.2.2.2.2.2.2.1.2 a.2.2.2.2.2.2.2.2.2.1 a.2.2.2.2.2.2.2.2.2.2 0 0 false false false)))))
def F60 : Fn := ⟨[u0_12, pI, pI], [u0_16, .val ⟨false, (.sl 73 Y0_66), true⟩, rI], fun k (a, b, c, _) => S60 k a b c⟩
theorem ok60 : O 60 F60 := okF (Om ok99 <| Om ok106 <| Om ok107 <| Om ok108 <| Om ok109 Oz) [(9, 2)] (fun k => (.join 17 c60_J17 (fun (_, a, b, (c, e, f, h, i, l, m, n, o, p, s, t, u, _), (v, w, _, _, y, z, A, _), B, C, _) => j60_17 k a b c e f h i l m n o p s t u v w y z A B C) (.join 10 c60_J10 (fun (_, a, b, (c, e, f, h, i, l, m, n, o, p, s, t, u, _), (v, w, _, _, y, z, A, _), _) => j60_10 k a b c e f h i l m n o p s t u v w y z A) .nil))) Tryz.func60 rfl
def S98 (k : Nat) (a : Y0_20) : Option Y0_58 :=
 (S60 k a (-1) 0).bind fun q0 =>
 some ((q0.1.1, ()), ())
def F98 : Fn := ⟨[u0_12], [u0_16], fun k x => S98 k x.1⟩
theorem ok98 : O 98 F98 := okF (Om ok60 Oz) [] On Tryz.func98 rfl
def S188 (k : Nat) (a : Y0_70) : Option ((Y0_26 × Unit) × Unit) :=
 (S149 k a.1).bind fun q0 =>
 (S150 k a.2).bind fun q1 =>
 some (((q0.1.1, q1.1.1), ()), ())
def F188 : Fn := ⟨[u0_11], [u0_14], fun k x => S188 k x.1⟩
theorem ok188 : O 188 F188 := okF (Om ok149 <| Om ok150 Oz) [] On Tryz.func188 rfl
def S190 (k : Nat) (a : Y0_70) : Option Y0_11 :=
 some ((mn (a.1.length : Int) (a.2.length : Int), ()), ())
def F190 : Fn := ⟨[u0_11], [rI], fun k x => S190 k x.1⟩
theorem ok190 : O 190 F190 := okF Oz [] On Tryz.func190 rfl
abbrev c189_L2 : Cut := ⟨[0, 1, 7, 8], [.cell Y0_60, .cell .bool, cI, cI], [], 19, []⟩
def l189_2 (k : Nat) (g2 : (List Bool) → Bool → Int → Int → Option Y0_11) (a : List Bool) (b : Bool) (c e : Int) : Option Y0_11 :=
 (bif decide (e < c) then
  ix a e <|
  (bif b == (rd a e false) then
   some ((e, ()), ())
  else
   g2 a b c (IntKind.i64.wrap (e + 1)))
 else
  some (((-1), ()), ()))
def b189_2 (k : Nat) : Xx (((Unit) × (List Bool) × Bool × Int × Int × Unit) → Option Y0_11) := iV (iU (iL (iL (iL (iL iE))))) (l189_2 k)
def L189_2 (k a : Nat) (b : List Bool) (c : Bool) (e f : Int) : Option Y0_11 := iter c189_L2 (b189_2 k) a ((), b, c, e, f, ())
def S189 (k : Nat) (a : List Bool) (b : Bool) : Option Y0_11 :=
 L189_2 k k a b (a.length : Int) 0
def F189 : Fn := ⟨[.val ⟨false, Y0_60, false⟩, .val ⟨false, .bool, false⟩], [rI], fun k x => S189 k x.1 x.2.1⟩
theorem ok189 : O 189 F189 := okF Oz [] (fun k => (.loop 2 c189_L2 (b189_2 k) (fun g => .nil) .nil)) Tryz.func189 rfl
def S158 (k : Nat) (a : Y0_70) : Option ((Y0_26 × (Int × Int) × Bool × Unit) × Unit) :=
 (S188 k a).bind fun q0 =>
 (S190 k q0.1.1).bind fun q1 =>
 sx q0.1.1.2 0 q1.1.1 <|
 (S189 k (sub q0.1.1.2 0 q1.1.1) false).bind fun q2 =>
 (bif decide (q2.1.1 < 0) then
  some ((q0.1.1, (0, 0), false, ()), ())
 else
  ix q0.1.1.1 q2.1.1 <|
  ix q0.1.1.1 q2.1.1 <|
  ix q0.1.1.2 q2.1.1 <|
  ix (upd q0.1.1.1 q2.1.1 (IntKind.i64.wrap ((rd q0.1.1.1 q2.1.1 0) + 1))) q2.1.1 <|
  some (((upd q0.1.1.1 q2.1.1 (IntKind.i64.wrap ((rd q0.1.1.1 q2.1.1 0) + 1)), upd q0.1.1.2 q2.1.1 true), (q2.1.1, rd (upd q0.1.1.1 q2.1.1 (IntKind.i64.wrap ((rd q0.1.1.1 q2.1.1 0) + 1))) q2.1.1 0), true, ()), ()))
def F158 : Fn := ⟨[u0_11], [u0_14, .val ⟨true, Y0_16, true⟩, rB], fun k x => S158 k x.1⟩
theorem ok158 : O 158 F158 := okF (Om ok188 <| Om ok189 <| Om ok190 Oz) [] On Tryz.func158 rfl
def S160 (k : Nat) (a : Int) (b : Int × Int) : Option ((Y0_4 × Unit) × Unit) :=
 (bif a == 1 then
  some (((a, b, (8, 0), ([], []), (0, []), 0), ()), ())
 else
  some (((a, b, (0, 0), ([], []), (0, []), 0), ()), ()))
def F160 : Fn := ⟨[pI, u0_13], [.val ⟨true, Y0_5, true⟩], fun k x => S160 k x.1 x.2.1⟩
theorem ok160 : O 160 F160 := okF Oz [] On Tryz.func160 rfl
abbrev c125_L4 : Cut := ⟨[1, 4, 5, 7, 8, 9, 20, 21, 22], [cI, .box 63 [.nil, .nil, .nil], .box 48 [cI, cI], .mp 205 false (.int .i64) false (.int .i64), .box 63 [.own 3 (.int .i64), .own 4 .bool, .own 177 Y0_5], cI, .cell Y0_72, cI, cI], [], 72, []⟩
def l125_4 (k : Nat) (g4 : Int → Int → Int → Y0_14 → (List Int) → (List Bool) → (List Y0_4) → Int → (List Y0_4) → Int → Int → Option Y0_39) (a b c : Int) (e : Y0_31) (f : List Int) (h : List Bool) (i : List Y0_4) (l : Int) (m : List Y0_4) (n o : Int) : Option Y0_39 :=
 (bif decide (o < n) then
  ix m o <|
  (bif (rd m o (0, (0, 0), (0, 0), ([], []), (0, []), 0)).1 == a then
   g4 a b c e f h i (IntKind.i64.wrap (l + 1)) m n (IntKind.i64.wrap (o + 1))
  else
   g4 a b c e f h i l m n (IntKind.i64.wrap (o + 1)))
 else
  (S158 k (f, h)).bind fun q1 =>
  (bif decide (l ≥ (mget (.int .i64) (.int .i64) a e 0)) then
   some ((((f, h), i), (0, 0), false, ()), ())
  else
   (bif !q1.1.2.2.1 then
    some ((((f, h), i), (0, 0), false, ()), ())
   else
    (bif decide (q1.1.2.1.1 ≥ (i.length : Int)) then
     some ((((f, h), i), (0, 0), false, ()), ())
    else
     (S160 k a q1.1.2.1).bind fun q2 =>
     (S159 k q2.1.1).bind fun q3 =>
     ix i q1.1.2.1.1 <|
     some (((q1.1.1, upd i q1.1.2.1.1 q3.1.1), q1.1.2.1, true, ()), ())))))
def b125_4 (k : Nat) : Xx (((Unit) × Int × (Unit × Unit × Unit × Unit) × (Int × Int × Unit) × Y0_14 × Y0_62 × Int × (List Y0_4) × Int × Int × Unit) → Option Y0_39) := iV (iU (iL (iN (iU (iU (iU iE))) (iN (iL (iL iE)) (iL (iN (iL (iL (iL iE))) (iL (iL (iL (iL iE)))))))))) (l125_4 k)
def L125_4 (k a : Nat) (b c e : Int) (f : Y0_31) (h : List Int) (i : List Bool) (l : List Y0_4) (m : Int) (n : List Y0_4) (o p : Int) : Option Y0_39 := iter c125_L4 (b125_4 k) a ((), b, ((), (), (), ()), (c, e, ()), f, (h, i, l, ()), m, n, o, p, ())
def S125 (k : Nat) (a : Y0_26 × List Y0_4) (b : Int) : Option Y0_39 :=
 (S104 k a).bind fun q0 =>
 L125_4 k k b 0 0 (updD (.int .i64) (.int .i64) 3 4 (updD (.int .i64) (.int .i64) 2 4 (updD (.int .i64) (.int .i64) 1 4 ([] : List (Int × Int))))) q0.1.1.1.1 q0.1.1.1.2 q0.1.1.2 0 a.2 (a.2.length : Int) 0
def F125 : Fn := ⟨[u0_10, pI], [u0_15, .val ⟨true, Y0_16, true⟩, rB], fun k x => S125 k x.1 x.2.1⟩
theorem ok125 : O 125 F125 := okF (Om ok104 <| Om ok158 <| Om ok159 <| Om ok160 Oz) [] (fun k => (.loop 4 c125_L4 (b125_4 k) (fun g => .nil) .nil)) Tryz.func125 rfl
abbrev c89_J3 : Cut := ⟨[0, 2], [.pin false 0, .mp 205 false (.int .i64) false (.int .i64)], [.mbox 160 [cI, cI, .cell Y0_40, .cell (.sl 43 Y0_37), .cell .bool, .cell .bool, .cell .bool, .cell (.sl 184 Y0_2), .cell Y0_18, .cell Y0_60, .cell Y0_72, .cell Y0_18, .cell Y0_60, cI, cI, cI, cI, .cell Y0_25, .cell Y0_25, .cell Y0_25, cI, cI, cI, cI, .cell (.int .u32), .own 73 Y0_66, cI, cI, cI, cI]], 58, []⟩
def j89_3 (k : Nat) (a b : Int) (c : List Y0_0) (e : List (PN Int 5)) (f h i : Bool) (l : List Y0_3) (m : List Int) (n : List Bool) (o : List Y0_4) (p : List Int) (s : List Bool) (t u v w : Int) (y z A : List Y0_7) (B C D G H : Int) (I : List (PN Int 6)) (J K M N : Int) (O : Y0_31) : Option ((Unit) × Y0_12 × Unit) :=
 (S125 k ((m, n), o) (mget (.int .i64) (.int .i64) t O 0)).bind fun q0 =>
 (bif !q0.1.2.2.1 then
  some ((), (a, b, c, e, f, h, i, l, m, n, o, p, s, t, u, v, w, y, z, A, B, C, D, G, H, I, 4, K, M, N, ()), ())
 else
  some ((), (a, b, c, e, f, h, i, l, q0.1.1.1.1, q0.1.1.1.2, q0.1.1.2, p, s, t, u, v, w, y, z, A, B, C, D, G, H, I, J, q0.1.2.1.1, q0.1.2.1.2, N, ()), ()))
def S89 (k : Nat) (a b : Int) (c : List Y0_0) (e : List (PN Int 5)) (f h i : Bool) (l : List Y0_3) (m : List Int) (n : List Bool) (o : List Y0_4) (p : List Int) (s : List Bool) (t u v w : Int) (y z A : List Y0_7) (B C D G H : Int) (I : List (PN Int 6)) (J K M N : Int) : Option ((Unit) × Y0_12 × Unit) :=
 (bif t == 2 then
  (bif f then
   some ((), (a, b, c, e, f, h, i, l, m, n, o, p, s, t, u, v, w, y, z, A, B, C, D, G, H, I, 7, K, M, N, ()), ())
  else
   j89_3 k a b c e f h i l m n o p s t u v w y z A B C D G H I J K M N (updD (.int .i64) (.int .i64) 4 3 (updD (.int .i64) (.int .i64) 3 2 (updD (.int .i64) (.int .i64) 2 1 ([] : List (Int × Int))))))
 else
  j89_3 k a b c e f h i l m n o p s t u v w y z A B C D G H I J K M N (updD (.int .i64) (.int .i64) 4 3 (updD (.int .i64) (.int .i64) 3 2 (updD (.int .i64) (.int .i64) 2 1 ([] : List (Int × Int))))))
def F89 : Fn := ⟨[u0_0], [], fun k ((a, b, c, e, f, h, i, l, m, n, o, p, s, t, u, v, w, y, z, A, B, C, D, G, H, I, J, K, M, N, _), _) => S89 k a b c e f h i l m n o p s t u v w y z A B C D G H I J K M N⟩
theorem ok89 : O 89 F89 := okF (Om ok125 Oz) [] (fun k => (.join 3 c89_J3 (fun (((a, b, c, e, f, h, i, l, m, n, o, p, s, t, u, v, w, y, z, A, B, C, D, G, H, I, J, K, M, N, _), _), _, O, _) => j89_3 k a b c e f h i l m n o p s t u v w y z A B C D G H I J K M N O) .nil)) Tryz.func89 rfl
abbrev c144_L2 : Cut := ⟨[2, 6, 7, 8], [.own 3 (.int .i64), .cell Y0_72, cI, cI], [], 22, []⟩
def l144_2 (k : Nat) (g2 : (List Int) → (List Y0_4) → Int → Int → Option Y0_19) (a : List Int) (b : List Y0_4) (c e : Int) : Option Y0_19 :=
 (bif decide (e < c) then
  ix b e <|
  (bif (rd b e (0, (0, 0), (0, 0), ([], []), (0, []), 0)).1 == 1 then
   ap a ([e] : List Int) 8 fun r0 =>
   g2 r0 b c (IntKind.i64.wrap (e + 1))
  else
   g2 a b c (IntKind.i64.wrap (e + 1)))
 else
  some ((a, ()), ()))
def b144_2 (k : Nat) : Xx (((Unit) × (List Int) × (List Y0_4) × Int × Int × Unit) → Option Y0_19) := iV (iU (iL (iL (iL (iL iE))))) (l144_2 k)
def L144_2 (k a : Nat) (b : List Int) (c : List Y0_4) (e f : Int) : Option Y0_19 := iter c144_L2 (b144_2 k) a ((), b, c, e, f, ())
def S144 (k : Nat) (a : Y0_26 × List Y0_4) : Option Y0_19 :=
 L144_2 k k ([] : List Int) a.2 (a.2.length : Int) 0
def F144 : Fn := ⟨[u0_10], [u0_9], fun k x => S144 k x.1⟩
theorem ok144 : O 144 F144 := okF Oz [(2, 2)] (fun k => (.loop 2 c144_L2 (b144_2 k) (fun g => .nil) .nil)) Tryz.func144 rfl
abbrev c146_L2 : Cut := ⟨[1, 2, 7, 8, 9], [.box 67 [cI, cI, .cell Y0_40, .cell (.sl 43 Y0_37), .cell .bool, .cell .bool, .cell .bool, .cell (.sl 184 Y0_2), .cell Y0_18, .cell Y0_60, .cell Y0_72, .cell Y0_18, .cell Y0_60], .own 170 Y0_16, .own 3 (.int .i64), cI, cI], [], 25, []⟩
def l146_2 (k : Nat) (g2 : Int → Int → (List Y0_0) → Y0_67 → Bool → Bool → Bool → (List Y0_3) → (List Int) → (List Bool) → (List Y0_4) → (List Int) → (List Bool) → Y0_14 → (List Int) → Int → Int → Option Y0_32) (a b : Int) (c : List Y0_0) (e : List (PN Int 5)) (f h i : Bool) (l : List Y0_3) (m : List Int) (n : List Bool) (o : List Y0_4) (p : List Int) (s : List Bool) (t : Y0_31) (u : List Int) (v w : Int) : Option Y0_32 :=
 (bif decide (w < v) then
  ix u w <|
  ix o (rd u w 0) <|
  ap t ([(rd o (rd u w 0) (0, (0, 0), (0, 0), ([], []), (0, []), 0)).2.2.1] : List (Int × Int)) 16 fun r1 =>
  g2 a b c e f h i l m n o p s r1 u v (IntKind.i64.wrap (w + 1))
 else
  some ((t, ()), ()))
def b146_2 (k : Nat) : Xx (((Unit) × Y0_9 × Y0_14 × (List Int) × Int × Int × Unit) → Option Y0_32) := iV (iU (iN (iL (iL (iL (iL (iL (iL (iL (iL (iL (iL (iL (iL (iL iE))))))))))))) (iL (iL (iL (iL iE)))))) (l146_2 k)
def L146_2 (k a : Nat) (b c : Int) (e : List Y0_0) (f : List (PN Int 5)) (h i l : Bool) (m : List Y0_3) (n : List Int) (o : List Bool) (p : List Y0_4) (s : List Int) (t : List Bool) (u : Y0_31) (v : List Int) (w y : Int) : Option Y0_32 := iter c146_L2 (b146_2 k) a ((), (b, c, e, f, h, i, l, m, n, o, p, s, t, ()), u, v, w, y, ())
def S146 (k : Nat) (a : Y0_20) : Option Y0_32 :=
 (S144 k a.2.2.2.2.2.2.2.2.1).bind fun q0 =>
 L146_2 k k a.1 a.2.1 a.2.2.1 a.2.2.2.1 a.2.2.2.2.1 a.2.2.2.2.2.1 a.2.2.2.2.2.2.1 a.2.2.2.2.2.2.2.1 a.2.2.2.2.2.2.2.2.1.1.1 a.2.2.2.2.2.2.2.2.1.1.2 a.2.2.2.2.2.2.2.2.1.2 a.2.2.2.2.2.2.2.2.2.1 a.2.2.2.2.2.2.2.2.2.2 ([] : List (Int × Int)) q0.1.1 (q0.1.1.length : Int) 0
def F146 : Fn := ⟨[u0_12], [.val ⟨false, (.sl 170 Y0_16), true⟩], fun k x => S146 k x.1⟩
theorem ok146 : O 146 F146 := okF (Om ok144 Oz) [(2, 2)] (fun k => (.loop 2 c146_L2 (b146_2 k) (fun g => .nil) .nil)) Tryz.func146 rfl
def S161 (k : Nat) (a : Int × Int × Int × Int) (b : Y0_31) : Option Y0_15 :=
 (bif a.1 == 9 then
  some ((decide (a.2.1 ≥ (b.length : Int)), ()), ())
 else
  some ((false, ()), ()))
def F161 : Fn := ⟨[u0_17, .pv (.ref (.sl 170 Y0_16))], [rB], fun k x => S161 k x.1 x.2.1⟩
theorem ok161 : O 161 F161 := okF Oz [] On Tryz.func161 rfl
abbrev c65d_L2 : Cut := ⟨[0, 1, 7, 8], [.cell Y0_25, .clo 161 [.ref (.sl 170 Y0_16)], cI, cI], [], 19, []⟩
def l65d_2 (k : Nat) (g2 : (List Y0_7) → Y0_14 → Int → Int → Option Y0_11) (a : List Y0_7) (b : Y0_31) (c e : Int) : Option Y0_11 :=
 (bif decide (e < c) then
  ix a e <|
  (S161 k (rd a e (0, 0, 0, 0)) b).bind fun q0 =>
  (bif q0.1.1 then
   some ((e, ()), ())
  else
   g2 a b c (IntKind.i64.wrap (e + 1)))
 else
  some (((-1), ()), ()))
def b65d_2 (k : Nat) : Xx (((Unit) × (List Y0_7) × (Y0_14 × Unit) × Int × Int × Unit) → Option Y0_11) := iV (iU (iL (iN (iL iE) (iL (iL iE))))) (l65d_2 k)
def L65d_2 (k a : Nat) (b : List Y0_7) (c : Y0_31) (e f : Int) : Option Y0_11 := iter c65d_L2 (b65d_2 k) a ((), b, (c, ()), e, f, ())
def S65d (k : Nat) (a : List Y0_7) (b : Y0_31) : Option Y0_11 :=
 L65d_2 k k a b (a.length : Int) 0
def F65d : Fn := ⟨[u0_5, .pv (.clo 161 [.ref (.sl 170 Y0_16)])], [rI], fun k x => S65d k x.1 x.2.1.1⟩
theorem ok65d : O 65 F65d := okF (Om ok161 Oz) [] (fun k => (.loop 2 c65d_L2 (b65d_2 k) (fun g => .nil) .nil)) Tryz.func65 rfl
def S62c (k : Nat) (a : List Y0_7) (b : Y0_31) : Option Y0_15 :=
 (S65d k a b).bind fun q0 =>
 some ((decide (q0.1.1 ≥ 0), ()), ())
def F62c : Fn := ⟨[u0_5, .pv (.clo 161 [.ref (.sl 170 Y0_16)])], [rB], fun k x => S62c k x.1 x.2.1.1⟩
theorem ok62c : O 62 F62c := okF (Om ok65d Oz) [] On Tryz.func62 rfl
abbrev c162_L1 : Cut := ⟨[0, 1, 11, 12, 13], [.pin false 0, .cell (.sl 170 Y0_16), .own 3 (.int .i64), cI, cI], [.mbox 67 [cI, cI, .cell Y0_40, .own 43 Y0_37, .cell .bool, .cell .bool, .cell .bool, .own 184 Y0_2, .own 3 (.int .i64), .own 4 .bool, .own 177 Y0_5, .own 3 (.int .i64), .own 4 .bool]], 55, []⟩
def l162_1 (k : Nat) (g1 : Int → Int → (List Y0_0) → Y0_67 → Bool → Bool → Bool → (List Y0_3) → (List Int) → (List Bool) → (List Y0_4) → (List Int) → (List Bool) → Y0_14 → (List Int) → Int → Int → Option ((Unit) × Y0_9 × Unit)) (a b : Int) (c : List Y0_0) (e : List (PN Int 5)) (f h i : Bool) (l : List Y0_3) (m : List Int) (n : List Bool) (o : List Y0_4) (p : List Int) (s : List Bool) (t : Y0_31) (u : List Int) (v w : Int) : Option ((Unit) × Y0_9 × Unit) :=
 (bif decide (w < v) then
  ix u w <|
  ix o (rd u w 0) <|
  (bif decide (w < (t.length : Int)) then
   ix t w <|
   (bif !(beqD Y0_16 (rd o (rd u w 0) (0, (0, 0), (0, 0), ([], []), (0, []), 0)).2.2.1 (rd t w (0, 0))) then
    ix t w <|
    (S130 k ((m, n), o) (rd u w 0) ((rd o (rd u w 0) (0, (0, 0), (0, 0), ([], []), (0, []), 0)).1, (rd o (rd u w 0) (0, (0, 0), (0, 0), ([], []), (0, []), 0)).2.1, rd t w (0, 0), (rd o (rd u w 0) (0, (0, 0), (0, 0), ([], []), (0, []), 0)).2.2.2)).bind fun q1 =>
    g1 a b c e f h i l q1.1.1.1.1 q1.1.1.1.2 q1.1.1.2 p s t u v (IntKind.i64.wrap (w + 1))
   else
    g1 a b c e f h i l m n o p s t u v (IntKind.i64.wrap (w + 1)))
  else
   g1 a b c e f h i l m n o p s t u v (IntKind.i64.wrap (w + 1)))
 else
  some ((), (a, b, c, e, f, h, i, l, m, n, o, p, s, ()), ()))
def b162_1 (k : Nat) : Xx (((Y0_9 × Unit) × Unit × Y0_14 × (List Int) × Int × Int × Unit) → Option ((Unit) × Y0_9 × Unit)) := iV (iN (iN (iL (iL (iL (iL (iL (iL (iL (iL (iL (iL (iL (iL (iL iE))))))))))))) iE) (iU (iL (iL (iL (iL iE)))))) (l162_1 k)
def L162_1 (k a : Nat) (b c : Int) (e : List Y0_0) (f : List (PN Int 5)) (h i l : Bool) (m : List Y0_3) (n : List Int) (o : List Bool) (p : List Y0_4) (s : List Int) (t : List Bool) (u : Y0_31) (v : List Int) (w y : Int) : Option ((Unit) × Y0_9 × Unit) := iter c162_L1 (b162_1 k) a (((b, c, e, f, h, i, l, m, n, o, p, s, t, ()), ()), (), u, v, w, y, ())
def S162 (k : Nat) (a b : Int) (c : List Y0_0) (e : List (PN Int 5)) (f h i : Bool) (l : List Y0_3) (m : List Int) (n : List Bool) (o : List Y0_4) (p : List Int) (s : List Bool) (t : Y0_31) : Option ((Unit) × Y0_9 × Unit) :=
 (S144 k ((m, n), o)).bind fun q0 =>
 L162_1 k k a b c e f h i l m n o p s t q0.1.1 (q0.1.1.length : Int) 0
def F162 : Fn := ⟨[.mbox 67 [cI, cI, .cell Y0_40, .own 43 Y0_37, .cell .bool, .cell .bool, .cell .bool, .own 184 Y0_2, .own 3 (.int .i64), .own 4 .bool, .own 177 Y0_5, .own 3 (.int .i64), .own 4 .bool], .val ⟨false, (.sl 170 Y0_16), false⟩], [], fun k ((a, b, c, e, f, h, i, l, m, n, o, p, s, _), t, _) => S162 k a b c e f h i l m n o p s t⟩
theorem ok162 : O 162 F162 := okF (Om ok130 <| Om ok144 Oz) [] (fun k => (.loop 1 c162_L1 (b162_1 k) (fun g => .nil) .nil)) Tryz.func162 rfl
abbrev c126_L12 : Cut := ⟨[1, 2, 4, 33, 34], [.box 67 [cI, cI, .cell Y0_40, .own 43 Y0_37, .cell .bool, .cell .bool, .cell .bool, .own 184 Y0_2, .own 3 (.int .i64), .own 4 .bool, .own 177 Y0_5, .own 3 (.int .i64), .own 4 .bool], .box 67 [cI, cI, .nil, .nil, .cell .bool, .cell .bool, .cell .bool, .nil, .nil, .nil, .nil, .nil, .nil], .box 239 [.own 170 Y0_16], cI, cI], [], 50, []⟩
def l126_12 (k : Nat) (g12 : Int → Int → (List Y0_0) → Y0_67 → Bool → Bool → Bool → (List Y0_3) → (List Int) → (List Bool) → (List Y0_4) → (List Int) → (List Bool) → Int → Int → Bool → Bool → Bool → Y0_14 → Int → Int → Option Y0_44) (s t : Int) (u : List Y0_0) (v : List (PN Int 5)) (w y z : Bool) (A : List Y0_3) (B : List Int) (C : List Bool) (D : List Y0_4) (G : List Int) (H : List Bool) (I J : Int) (K M N : Bool) (O : Y0_31) (P Q : Int) : Option Y0_44 :=
 (bif decide (Q < P) then
  (S53 k u Q).bind fun q4 =>
  ix O Q <|
  g12 s t u v w y z A B C D G H I J K M N (upd O Q (q4.1.1, (rd O Q (0, 0)).2)) P (IntKind.i64.wrap (Q + 1))
 else
  (S162 k s t u v w y z A B C D G H O).bind fun (_, (a, b, c, e, _, f, h, i, l, m, n, o, p, _), _) =>
  some (((a, b, c, e, true, f, h, i, ((l, m), n), o, p), 0, ()), ()))
def b126_12 (k : Nat) : Xx (((Unit) × Y0_9 × Y0_21 × (Y0_14 × Unit) × Int × Int × Unit) → Option Y0_44) := iV (iU (iN (iL (iL (iL (iL (iL (iL (iL (iL (iL (iL (iL (iL (iL iE))))))))))))) (iN (iL (iL (iU (iU (iL (iL (iL (iU (iU (iU (iU (iU (iU iE))))))))))))) (iN (iL iE) (iL (iL iE)))))) (l126_12 k)
def L126_12 (k a : Nat) (b c : Int) (e : List Y0_0) (f : List (PN Int 5)) (h i l : Bool) (m : List Y0_3) (n : List Int) (o : List Bool) (p : List Y0_4) (s : List Int) (t : List Bool) (u v : Int) (w y z : Bool) (A : Y0_31) (B C : Int) : Option Y0_44 := iter c126_L12 (b126_12 k) a ((), (b, c, e, f, h, i, l, m, n, o, p, s, t, ()), (u, v, (), (), w, y, z, (), (), (), (), (), (), ()), (A, ()), B, C, ())
abbrev c126_L6 : Cut := ⟨[1, 2, 4, 16, 17, 18], [.box 67 [cI, cI, .cell Y0_40, .own 43 Y0_37, .cell .bool, .cell .bool, .cell .bool, .own 184 Y0_2, .own 3 (.int .i64), .own 4 .bool, .own 177 Y0_5, .own 3 (.int .i64), .own 4 .bool], .box 67 [cI, cI, .nil, .nil, .cell .bool, .cell .bool, .cell .bool, .nil, .nil, .nil, .nil, .nil, .nil], .box 239 [.own 170 Y0_16], .cell Y0_40, cI, cI], [], 50, []⟩
def l126_6 (k : Nat) (g6 : Int → Int → (List Y0_0) → Y0_67 → Bool → Bool → Bool → (List Y0_3) → (List Int) → (List Bool) → (List Y0_4) → (List Int) → (List Bool) → Int → Int → Bool → Bool → Bool → Y0_14 → (List Y0_0) → Int → Int → Option Y0_44) (a b : Int) (c : List Y0_0) (e : List (PN Int 5)) (f h i : Bool) (l : List Y0_3) (m : List Int) (n : List Bool) (o : List Y0_4) (p : List Int) (s : List Bool) (t u : Int) (v w y : Bool) (z : Y0_31) (A : List Y0_0) (B C : Int) : Option Y0_44 :=
 (bif decide (C < B) then
  ix A C <|
  (S85 k ([(rd A C (0, 0, 0, [], [], [])).2.2.2.1, (rd A C (0, 0, 0, [], [], [])).2.2.2.2.1] : List (List Y0_7))).bind fun q2 =>
  (S62c k q2.1.1 z).bind fun q3 =>
  (bif q3.1.1 then
   some (((a, b, c, e, f, h, i, l, ((m, n), o), p, s), 4, ()), ())
  else
   g6 a b c e f h i l m n o p s t u v w y z A B (IntKind.i64.wrap (C + 1)))
 else
  L126_12 k k a b c e f h i l m n o p s t u v w y z (z.length : Int) 0)
def b126_6 (k : Nat) : Xx (((Unit) × Y0_9 × Y0_21 × (Y0_14 × Unit) × (List Y0_0) × Int × Int × Unit) → Option Y0_44) := iV (iU (iN (iL (iL (iL (iL (iL (iL (iL (iL (iL (iL (iL (iL (iL iE))))))))))))) (iN (iL (iL (iU (iU (iL (iL (iL (iU (iU (iU (iU (iU (iU iE))))))))))))) (iN (iL iE) (iL (iL (iL iE))))))) (l126_6 k)
def L126_6 (k a : Nat) (b c : Int) (e : List Y0_0) (f : List (PN Int 5)) (h i l : Bool) (m : List Y0_3) (n : List Int) (o : List Bool) (p : List Y0_4) (s : List Int) (t : List Bool) (u v : Int) (w y z : Bool) (A : Y0_31) (B : List Y0_0) (C D : Int) : Option Y0_44 := iter c126_L6 (b126_6 k) a ((), (b, c, e, f, h, i, l, m, n, o, p, s, t, ()), (u, v, (), (), w, y, z, (), (), (), (), (), (), ()), (A, ()), B, C, D, ())
def S126 (k : Nat) (a : Y0_20) : Option Y0_44 :=
 (S99 k a).bind fun q0 =>
 (bif q0.1.1.2.2.2.2.1 then
  some ((q0.1.1, 7, ()), ())
 else
  (S146 k q0.1.1).bind fun q1 =>
  L126_6 k k q0.1.1.1 q0.1.1.2.1 q0.1.1.2.2.1 q0.1.1.2.2.2.1 q0.1.1.2.2.2.2.1 q0.1.1.2.2.2.2.2.1 q0.1.1.2.2.2.2.2.2.1 q0.1.1.2.2.2.2.2.2.2.1 q0.1.1.2.2.2.2.2.2.2.2.1.1.1 q0.1.1.2.2.2.2.2.2.2.2.1.1.2 q0.1.1.2.2.2.2.2.2.2.2.1.2 q0.1.1.2.2.2.2.2.2.2.2.2.1 q0.1.1.2.2.2.2.2.2.2.2.2.2 0 0 false false false q1.1.1 q0.1.1.2.2.1 (q0.1.1.2.2.1.length : Int) 0)
def F126 : Fn := ⟨[u0_12], [.val ⟨true, Y0_10, false⟩, rI], fun k x => S126 k x.1⟩
theorem ok126 : O 126 F126 := okF (Om ok53 <| Om ok62c <| Om ok85 <| Om ok99 <| Om ok146 <| Om ok162 Oz) [] (fun k => (.loop 12 c126_L12 (b126_12 k) (fun g => .nil) (.loop 6 c126_L6 (b126_6 k) (fun g => .nil) .nil))) Tryz.func126 rfl
def S90 (k : Nat) (a t : Int) (u : List Y0_0) (v : List (PN Int 5)) (w y z : Bool) (A : List Y0_3) (B : List Int) (C : List Bool) (D : List Y0_4) (G : List Int) (H : List Bool) (I J K M : Int) (N O P : List Y0_7) (Q T U V W : Int) (X : List (PN Int 6)) (Z a1 b1 c1 : Int) : Option ((Unit) × Y0_12 × Unit) :=
 (S126 k (a, t, u, v, w, y, z, A, ((B, C), D), G, H)).bind fun (((b, c, e, f, h, i, l, m, ((n, o), p), _), s, _), _) =>
 (bif s == 0 then
  (S56 k (e.length : Int)).bind fun q1 =>
  some ((), (b, c, e, f, h, i, l, m, n, o, p, q1.1.1.1, q1.1.1.2, I, J, K, M, N, O, P, Q, T, U, V, W, X, s, a1, b1, c1, ()), ())
 else
  some ((), (a, t, u, v, w, y, z, A, B, C, D, G, H, I, J, K, M, N, O, P, Q, T, U, V, W, X, s, a1, b1, c1, ()), ()))
def F90 : Fn := ⟨[u0_0], [], fun k ((a, b, c, e, f, h, i, l, m, n, o, p, s, t, u, v, w, y, z, A, B, C, D, G, H, I, J, K, M, N, _), _) => S90 k a b c e f h i l m n o p s t u v w y z A B C D G H I J K M N⟩
theorem ok90 : O 90 F90 := okF (Om ok56 <| Om ok126 Oz) [] On Tryz.func90 rfl
def S91 (k : Nat) (a w : Int) (y : List Y0_0) (z : List (PN Int 5)) (A B C : Bool) (D : List Y0_3) (G : List Int) (H : List Bool) (I : List Y0_4) (J : List Int) (K : List Bool) (M N O P : Int) (Q T U : List Y0_7) (V W X Z a1 : Int) (b1 : List (PN Int 6)) (c1 e1 f1 h1 : Int) : Option ((Unit) × Y0_12 × Unit) :=
 (S60 k (a, w, y, z, A, B, C, D, ((G, H), I), J, K) X Z).bind fun (((b, c, e, f, h, i, l, m, ((n, o), p), s, t), u, v, _), _) =>
 some ((), (b, c, e, f, h, i, l, m, n, o, p, s, t, M, N, O, P, Q, T, U, V, W, X, Z, a1, u, v, e1, f1, h1, ()), ())
def F91 : Fn := ⟨[u0_0], [], fun k ((a, b, c, e, f, h, i, l, m, n, o, p, s, t, u, v, w, y, z, A, B, C, D, G, H, I, J, K, M, N, _), _) => S91 k a b c e f h i l m n o p s t u v w y z A B C D G H I J K M N⟩
theorem ok91 : O 91 F91 := okF (Om ok60 Oz) [] On Tryz.func91 rfl
abbrev c216_L3 : Cut := ⟨[1, 3, 7, 8], [.box 60 [.cell Y0_18, .cell Y0_60], .mp 319 true Y0_16 false .bool, cI, cI], [], 26, []⟩
def l216_3 (k : Nat) (g3 : (List Int) → (List Bool) → (List Y0_73) → Int → Int → Option Y0_47) (a : List Int) (b : List Bool) (c : List Y0_73) (e f : Int) : Option Y0_47 :=
 (bif decide (f < e) then
  ix b f <|
  (bif rd b f false then
   ix a f <|
   g3 a b (updD Y0_16 .bool (f, rd a f 0) true c) e (IntKind.i64.wrap (f + 1))
  else
   g3 a b c e (IntKind.i64.wrap (f + 1)))
 else
  some ((c, ()), ()))
def b216_3 (k : Nat) : Xx (((Unit) × ((List Int) × (List Bool) × Unit) × (List Y0_73) × Int × Int × Unit) → Option Y0_47) := iV (iU (iN (iL (iL iE)) (iL (iL (iL iE))))) (l216_3 k)
def L216_3 (k a : Nat) (b : List Int) (c : List Bool) (e : List Y0_73) (f h : Int) : Option Y0_47 := iter c216_L3 (b216_3 k) a ((), (b, c, ()), e, f, h, ())
def S216 (k : Nat) (a : Y0_70) : Option Y0_47 :=
 (S190 k a).bind fun q0 =>
 L216_3 k k a.1 a.2 ([] : List Y0_73) q0.1.1 0
def F216 : Fn := ⟨[u0_11], [.pv (.mp 319 true Y0_16 false .bool)], fun k x => S216 k x.1⟩
theorem ok216 : O 216 F216 := okF (Om ok190 Oz) [] (fun k => (.loop 3 c216_L3 (b216_3 k) (fun g => .nil) .nil)) Tryz.func216 rfl
def S191 (k : Nat) (a : Y0_70) (b : Int × Int) : Option Y0_15 :=
 (S216 k a).bind fun q0 =>
 some ((mget Y0_16 .bool b q0.1.1 false, ()), ())
def F191 : Fn := ⟨[u0_11, u0_13], [rB], fun k x => S191 k x.1 x.2.1⟩
theorem ok191 : O 191 F191 := okF (Om ok216 Oz) [] On Tryz.func191 rfl
def S163 (k : Nat) (a : Y0_26 × List Y0_4) (b : Int × Int) : Option Y0_34 :=
 (S191 k a.1 b).bind fun q0 =>
 (bif !q0.1.1 then
  some ((0, false, ()), ())
 else
  (S105 k a b.1).bind fun q1 =>
  (bif !q1.1.1 then
   some ((0, false, ()), ())
  else
   some ((b.1, true, ()), ())))
def F163 : Fn := ⟨[u0_10, u0_13], [rI, rB], fun k x => S163 k x.1 x.2.1⟩
theorem ok163 : O 163 F163 := okF (Om ok105 <| Om ok191 Oz) [] On Tryz.func163 rfl
def S127 (k : Nat) (a b : Int) (c : List Y0_0) (e : List (PN Int 5)) (f h i : Bool) (l : List Y0_3) (m : List Int) (n : List Bool) (o : List Y0_4) (p : List Int) (s : List Bool) (t u v w : Int) (y z A : List Y0_7) (B C D G H : Int) (I : List (PN Int 6)) (J K M N O : Int) : Option ((Int × Y0_4 × Bool × Unit) × Y0_12 × Unit) :=
 (S163 k ((m, n), o) (B, C)).bind fun q0 =>
 (bif !q0.1.2.1 then
  some ((0, (0, (0, 0), (0, 0), ([], []), (0, []), 0), false, ()), (a, b, c, e, f, h, i, l, m, n, o, p, s, t, u, v, w, y, z, A, B, C, D, G, H, I, 3, K, M, N, ()), ())
 else
  ix o q0.1.1 <|
  (bif (rd o q0.1.1 (0, (0, 0), (0, 0), ([], []), (0, []), 0)).1 != O then
   some ((0, (0, (0, 0), (0, 0), ([], []), (0, []), 0), false, ()), (a, b, c, e, f, h, i, l, m, n, o, p, s, t, u, v, w, y, z, A, B, C, D, G, H, I, 3, K, M, N, ()), ())
  else
   ix o q0.1.1 <|
   some ((q0.1.1, rd o q0.1.1 (0, (0, 0), (0, 0), ([], []), (0, []), 0), true, ()), (a, b, c, e, f, h, i, l, m, n, o, p, s, t, u, v, w, y, z, A, B, C, D, G, H, I, J, K, M, N, ()), ())))
def F127 : Fn := ⟨[u0_0, pI], [rI, .val ⟨true, Y0_5, false⟩, rB], fun k ((a, b, c, e, f, h, i, l, m, n, o, p, s, t, u, v, w, y, z, A, B, C, D, G, H, I, J, K, M, N, _), O, _) => S127 k a b c e f h i l m n o p s t u v w y z A B C D G H I J K M N O⟩
theorem ok127 : O 127 F127 := okF (Om ok163 Oz) [] On Tryz.func127 rfl
def S164 (k : Nat) (a : (List Int) × List Int) : Option ((((List Int) × List Int) × Unit) × Unit) :=
 (S186 k a.1).bind fun q0 =>
 (S149 k a.2).bind fun q1 =>
 some (((q0.1.1, q1.1.1), ()), ())
def F164 : Fn := ⟨[u0_2], [.val ⟨true, (.pair Y0_63 Y0_18), true⟩], fun k x => S164 k x.1⟩
theorem ok164 : O 164 F164 := okF (Om ok149 <| Om ok186 Oz) [] On Tryz.func164 rfl
def S128 (k : Nat) (a : (List Int) × List Int) (b : Int) : Option ((((List Int) × List Int) × Int × Bool × Unit) × Unit) :=
 (S164 k a).bind fun q0 =>
 (bif decide ((q0.1.1.2.length : Int) > 0) then
  ix q0.1.1.2 0 <|
  sx q0.1.1.2 1 (q0.1.1.2.length : Int) <|
  some (((q0.1.1.1, sub q0.1.1.2 1 (q0.1.1.2.length : Int)), rd q0.1.1.2 0 0, true, ()), ())
 else
  (bif decide ((q0.1.1.1.length : Int) ≥ 4) then
   some ((q0.1.1, 0, false, ()), ())
  else
   ap q0.1.1.1 ([b] : List Int) 8 fun r1 =>
   some (((r1, q0.1.1.2), 0, true, ()), ())))
def F128 : Fn := ⟨[u0_2, pI], [.val ⟨true, (.pair Y0_63 Y0_18), false⟩, rI, rB], fun k x => S128 k x.1 x.2.1⟩
theorem ok128 : O 128 F128 := okF (Om ok164 Oz) [] On Tryz.func128 rfl
def S129 (k : Nat) (a b : Int) (c : List Y0_0) (e : List (PN Int 5)) (f h i : Bool) (l : List Y0_3) (m : List Int) (n : List Bool) (o : List Y0_4) (p : List Int) (s : List Bool) (t u v w : Int) (y z A : List Y0_7) (B C D G H : Int) (I : List (PN Int 6)) (J K M N O P Q : Int) : Option ((Unit) × Y0_12 × Unit) :=
 ap I ([(a, 12, 0, O, P, Q)] : List (PN Int 6)) 48 fun r0 =>
 some ((), (a, b, c, e, f, h, i, l, m, n, o, p, s, t, u, v, w, y, z, A, B, C, D, G, H, r0, J, K, M, N, ()), ())
def F129 : Fn := ⟨[u0_0, pI, pI, pI], [], fun k ((a, b, c, e, f, h, i, l, m, n, o, p, s, t, u, v, w, y, z, A, B, C, D, G, H, I, J, K, M, N, _), O, P, Q, _) => S129 k a b c e f h i l m n o p s t u v w y z A B C D G H I J K M N O P Q⟩
theorem ok129 : O 129 F129 := okF Oz [] On Tryz.func129 rfl
end
end Go.Proofs.YteflacbgobpmcaaGreat.Ab
