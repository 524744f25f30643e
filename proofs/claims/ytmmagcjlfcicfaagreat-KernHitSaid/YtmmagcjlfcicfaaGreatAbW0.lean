import Derived.Test.YtmmagcjlfcicfaaGreatPbI
import Derived.Lib.Overlaps
import Derived.Shelf.RegionOpenPlain
import Derived.Test.YtmmagcjlfcicfaaGreatPbC
/- Contracts, printed by this session's own program gen.py. -/
set_option linter.unusedVariables false
set_option linter.unusedSimpArgs false
set_option maxRecDepth 100000
namespace Go.Proofs.YtmmagcjlfcicfaaGreat.Ab
open Go.RowKit
abbrev cI : PV := .cell (.int .i64)
abbrev Y0_0 : Type := Int × Int × Int × (List (Int × Int × Int × Int)) × (List (Int × Int × Int × Int)) × List (Int × Int × Int × Int)
abbrev Y0_1 : Type := Int × Int × Int × Int × (Int × (PN Int 8) × (List (Int × Int × Int)) × Bool) × (Int × (PN Int 8) × (List (Int × Int × Int)) × Bool) × (List Int) × Bool
abbrev Y0_2 : Ty := .pair (.int .i64) (.pair (.int .i64) (.pair (.int .i64) (.pair (.int .i64) (.pair (.pair (.int .i64) (.pair (arrT 8 (.int .i64)) (.pair (.sl 233 (.pair (.int .i64) (.pair (.int .i64) (.int .i64)))) .bool))) (.pair (.pair (.int .i64) (.pair (arrT 8 (.int .i64)) (.pair (.sl 233 (.pair (.int .i64) (.pair (.int .i64) (.int .i64)))) .bool))) (.pair (.sl 3 (.int .i64)) .bool))))))
abbrev Y0_3 : Type := Int × (Int × Int) × (Int × Int) × ((List Int) × List Int) × (Int × List (Int × Int)) × Int
abbrev Y0_4 : Ty := .pair (.int .i64) (.pair (.int .i64) (.pair (.int .i64) (.pair (.sl 87 (.pair (.int .i64) (.pair (.int .i64) (.pair (.int .i64) (.int .i64))))) (.pair (.sl 87 (.pair (.int .i64) (.pair (.int .i64) (.pair (.int .i64) (.int .i64))))) (.sl 87 (.pair (.int .i64) (.pair (.int .i64) (.pair (.int .i64) (.int .i64)))))))))
abbrev Y0_5 : Ty := .pair (.int .i64) (.pair (.pair (.int .i64) (.int .i64)) (.pair (.pair (.int .i64) (.int .i64)) (.pair (.pair (.sl 2 (.int .i64)) (.sl 3 (.int .i64))) (.pair (.pair (.int .u32) (.sl 297 (.pair (.int .i64) (.int .u32)))) (.int .u32)))))
abbrev Y0_6 : Type := Int × Int × (List Y0_0) × (List (PN Int 5)) × Bool × Bool × Bool × (List Y0_1) × (List Int) × (List Bool) × (List Y0_3) × (List Int) × (List Bool) × (List (PN Int 6)) × Unit
abbrev Y0_7 : Type := Int × Int × (List Y0_0) × (List (PN Int 5)) × Bool × Bool × Bool × (List Y0_1) × (((List Int) × List Bool) × List Y0_3) × (List Int) × List Bool
abbrev Y0_8 : Type := Int × Int × Int × Int
abbrev Y0_9 : Ty := .pair (.int .i64) (.pair (.int .i64) (.pair (.int .i64) (.int .i64)))
abbrev Y0_10 : Type := Int × Int × (List Y0_0) × (List (PN Int 5)) × Bool × Bool × Bool × (List Y0_1) × (List Int) × (List Bool) × (List Y0_3) × (List Int) × (List Bool) × Unit
abbrev Y0_11 : Ty := .pair (.int .i64) (.pair (.int .i64) (.pair (.sl 77 Y0_4) (.pair (.sl 96 (arrT 5 (.int .i64))) (.pair .bool (.pair .bool (.pair .bool (.pair (.sl 94 Y0_2) (.pair (.pair (.pair (.sl 3 (.int .i64)) (.sl 4 .bool)) (.sl 124 Y0_5)) (.pair (.sl 3 (.int .i64)) (.sl 4 .bool))))))))))
abbrev Y0_12 : Type := Int × Int × Int × Bool
abbrev Y0_13 : Type := (Int × Unit) × Unit
abbrev Y0_14 : Type := (Bool × Unit) × Unit
abbrev Y0_15 : Type := ((List Int) × Unit) × Unit
abbrev Y0_16 : Ty := .pair (.int .i64) (.int .i64)
abbrev Y0_17 : Type := (List Y0_8) → Int → Int → Int → Int → (List (Int × Int)) → (List Int) → (List Int) → Int → Int → Option (((Int × Int × List (Int × Int)) × Bool × Unit) × Unit)
abbrev Y0_18 : Type := ((List Int) × List Bool) × List Y0_3
abbrev Y0_19 : Type := (List Y0_8) → (List Int) → (List Int) → (List Y0_12) → Int → Option (((List Int) × Bool × Unit) × Unit)
abbrev Y0_20 : Ty := .pair (.int .i64) (.pair (.int .i64) (.pair (.int .i64) .bool))
abbrev Y0_21 : Type := List (Int × Int)
abbrev Y0_22 : Type := Int × Int × Unit × Unit × Bool × Bool × Bool × Unit × Unit × Unit × Unit × Unit × Unit × Unit
abbrev Y0_23 : Ty := .sl 3 (.int .i64)
abbrev Y0_24 : Type := ((Int × Int × List (Int × Int)) × Bool × Unit) × Unit
abbrev Y0_25 : Type := List (Int × Int)
abbrev Y0_26 : Type := Int × Int × (List Y0_0) × (List (PN Int 5)) × Bool × Bool × Bool × (List Y0_1) × Y0_18 × (List Int) × List Bool
abbrev Y0_27 : Type := ((List Int) × Bool × Unit) × Unit
abbrev Y0_28 : Type := (List Int) → (List Bool) → (List Y0_3) → (List Int) → (List Bool) → (List Y0_3) → (List Int) → (List (List Int)) → (List Y0_3) → Int → Int → Option ((Y0_18 × (List Int) × (List (List Int)) × Unit) × Unit)
abbrev Y0_29 : Type := (Int × Bool × Unit) × Unit
abbrev Y0_30 : Type := (Unit) × Y0_6 × Unit
abbrev Y0_31 : Type := Int × (Int × Int) × (Int × Int) × ((List Int) × List Int) × (Int × List (Int × Int)) × Int
abbrev Y0_32 : Ty := .pair Y0_23 (.sl 4 .bool)
abbrev Y0_33 : Ty := arrT 5 (.int .i64)
abbrev Y0_34 : Type := Int × Int × Int × Int × (Int × (PN Int 8) × (List (Int × Int × Int)) × Bool) × (Int × (PN Int 8) × (List (Int × Int × Int)) × Bool) × (List Int) × Bool
abbrev Y0_35 : Type := List Y0_12
abbrev Y0_36 : Type := ((List Y0_8) × Unit) × Unit
abbrev Y0_37 : Type := List (PN Int 5)
abbrev Y0_38 : Ty := .sl 87 Y0_9
abbrev Y0_39 : Type := ((Int × List (Int × Int)) × (List Int) × Unit) × Unit
abbrev Y0_40 : Type := (Y0_18 × (List Int) × (List (List Int)) × Unit) × Unit
abbrev Y0_41 : Type := (((List Int) × Int × Int × List Int) × Unit) × Unit
abbrev Y0_42 : Ty := .pair (.int .i64) (.int .u32)
abbrev Y0_43 : Type := (Y0_7 × Int × Unit) × Unit
abbrev Y0_44 : Type := (Y0_21 × Unit) × Unit
abbrev Y0_45 : Type := Int → Int → (List Y0_0) → Y0_37 → Bool → Bool → Bool → (List Y0_1) → (List Int) → (List Bool) → (List Y0_3) → (List Int) → (List Bool) → Int → Int → Bool → Bool → Bool → Int → Int → Option ((Y0_7 × Unit) × Unit)
abbrev Y0_46 : Type := (List Y0_8) → Y0_35 → Int → Option Y0_14
abbrev Y0_47 : Type := (List Y0_0) → Int → Int → Int → Option Y0_13
abbrev Y0_48 : Type := (List Y0_8) → Y0_35 → (List Int) → Int → Option Y0_14
abbrev Y0_49 : Type := (List Y0_8) → (List Int) → Y0_35 → Int → Option Y0_15
abbrev Y0_50 : Type := (List Int) × (List Bool) × (List Y0_3) × Unit
abbrev Y0_51 : Type := (List Int) × Int × Int × (List Int) × Unit
abbrev Y0_52 : Type := ((List Y0_0) × Y0_37 × Int × Unit) × Unit
abbrev Y0_53 : Ty := .sl 2 (.int .i64)
abbrev Y0_54 : Ty := arrT 6 (.int .i64)
abbrev Y0_55 : Type := Int → (List Int) → Int → Int → Option Y0_13
abbrev Y0_56 : Ty := .pair Y0_32 (.sl 124 Y0_5)
abbrev Y0_57 : Ty := .sl 77 Y0_4
abbrev Y0_58 : Type := (List Int) × List Bool
abbrev Y0_59 : Type := Int × Int × Int × (List Y0_8) × (List Y0_8) × List Y0_8
abbrev Y0_60 : Type := (Int × Int × Int × Unit) × Unit
abbrev Y0_61 : Type := Int × Unit
abbrev Y0_62 : Type := (List Y0_0) → Int → Int → Option Y0_13
abbrev Y0_63 : Type := (List Y0_8) → Y0_35 → Int → Int → Option Y0_14
abbrev Y0_64 : Type := (Y0_7 × Unit) × Unit
abbrev Y0_65 : Type := (Y0_18 × Unit) × Unit
abbrev Y0_66 : Type := (Y0_37 × Int × Unit) × Unit
abbrev Y0_67 : Type := List (List Int)
abbrev Y0_68 : Ty := .sl 114 Y0_16
abbrev Y0_69 : Type := Int × Int × Y0_21 × Unit
abbrev Y0_70 : Type := (List Int) × Unit
abbrev Y0_71 : Type := List (List Y0_8)
noncomputable section
def E0 : Env := tab.env (fun _ => none) (fun _ => 0)
theorem E0_ok : EnvOK Tryz.prog E0 := envOK_of tabOK _ _ (fun f F h => by cases h)
theorem okF {f : FuncId} {fn : Func} {F : Fn} {C : Code} (l : List (Nat × Fn)) (h : List (Nat × Nat)) (T : Nat → Tbl (RD F.rs × MD F.ps)) (hl : AllFn Tryz.prog l) (hf : Tryz.prog.funcs[f]? = some fn) (hb : fn.body = some C)
(h1 : (fn.name == "runtime.NumGoroutine") = false := by kernel_rfl) (h2 : Nat.ble F.ps.length fn.ntmps = true := by kernel_rfl)
(h3 : ∀ k, owedF (tab.env (lk l) (hintL h)) fn F.ps F.rs k true (T k) = owedF (tab.env (lk l) (hintL h)) fn F.ps F.rs k false (T k) := by intro k; kernel_rfl) (h4 : ∀ k x, F.sem k x = evalF (tab.env (lk l) (hintL h)) fn F.ps F.rs k (T k) x := by intro k x; kernel_rfl) : FnOK Tryz.prog f F :=
evalF_ok (envOK_of tabOK _ _ (allFn_lk hl)) mix hf hb h1 h2 h3 h4
def S118 (k : Nat) (a : Int) : Option ((Y0_58 × Unit) × Unit) :=
 mk (mn (mx a 0) 64) (mn (mx a 0) 64) 8 <|
 mk (mn (mx a 0) 64) (mn (mx a 0) 64) 1 <|
 some (((List.replicate (mn (mx a 0) 64).toNat (0 : Int), List.replicate (mn (mx a 0) 64).toNat (false : Bool)), ()), ())
def F118 : Fn := ⟨[.val ⟨false, (.int .i64), false⟩], [.val ⟨true, Y0_32, true⟩], fun k x => S118 k x.1⟩
theorem ok118 : FnOK Tryz.prog 118 F118 := okF [] [] (fun k => .nil) trivial Tryz.func118 rfl
def S64 (k : Nat) : Option Y0_65 :=
 (S118 k 12).bind fun q0 =>
 mk 12 12 128 <|
 some (((q0.1.1, List.replicate 12 ((0, (0, 0), (0, 0), ([], []), (0, []), 0) : Int × (Int × Int) × (Int × Int) × ((List Int) × List Int) × (Int × List (Int × Int)) × Int)), ()), ())
def F64 : Fn := ⟨[], [.val ⟨true, Y0_56, true⟩], fun k x => S64 k ⟩
theorem ok64 : FnOK Tryz.prog 64 F64 := okF [(118, F118)] [] (fun k => .nil) ⟨ok118, trivial⟩ Tryz.func64 rfl
def S65 (k : Nat) (a : Int) : Option ((Y0_58 × Unit) × Unit) :=
 mk (mn (mx a 0) 65536) (mn (mx a 0) 65536) 8 <|
 mk (mn (mx a 0) 65536) (mn (mx a 0) 65536) 1 <|
 some (((List.replicate (mn (mx a 0) 65536).toNat (0 : Int), List.replicate (mn (mx a 0) 65536).toNat (false : Bool)), ()), ())
def F65 : Fn := ⟨[.val ⟨false, (.int .i64), false⟩], [.val ⟨true, Y0_32, true⟩], fun k x => S65 k x.1⟩
theorem ok65 : FnOK Tryz.prog 65 F65 := okF [] [] (fun k => .nil) trivial Tryz.func65 rfl
def S25 (k : Nat) (a : Int) : Option ((Y0_7 × Bool × Unit) × Unit) :=
 (bif decide (a < 1) then
  some (((0, 0, [], [], false, false, false, [], (([], []), []), [], []), false, ()), ())
 else
  (bif decide (a > 4611686018427387904) then
   some (((0, 0, [], [], false, false, false, [], (([], []), []), [], []), false, ()), ())
  else
   (S64 k).bind fun q0 =>
   (S65 k 0).bind fun q1 =>
   some (((0, a, [], [], false, false, false, [], q0.1.1, q1.1.1), true, ()), ())))
def F25 : Fn := ⟨[.val ⟨false, (.int .i64), false⟩], [.val ⟨true, Y0_11, true⟩, .val ⟨false, .bool, true⟩], fun k x => S25 k x.1⟩
theorem ok25 : FnOK Tryz.prog 25 F25 := okF [(64, F64), (65, F65)] [] (fun k => .nil) ⟨ok64, ok65, trivial⟩ Tryz.func25 rfl
def S177 (k : Nat) (a b : Int) : Option Y0_14 :=
 (bif decide (b ≥ 0) then
  some ((decide (b < a), ()), ())
 else
  some ((false, ()), ()))
def F177 : Fn := ⟨[.val ⟨true, (.int .i64), false⟩, .val ⟨false, (.int .i64), false⟩], [.val ⟨false, .bool, true⟩], fun k x => S177 k x.1 x.2.1⟩
theorem ok177 : FnOK Tryz.prog 177 F177 := okF [] [] (fun k => .nil) trivial Tryz.func177 rfl
def S129 (k : Nat) (a : Int × Int × Int × Int) : Option Y0_14 :=
 (bif a.1 == 0 then
  (bif a.2.1 == 0 then
   (bif a.2.2.1 == 0 then
    some ((a.2.2.2 == 0, ()), ())
   else
    some ((false, ()), ()))
  else
   some ((false, ()), ()))
 else
  (bif a.1 == 11 then
   (bif a.2.1 == 0 then
    (bif a.2.2.1 == 0 then
     some ((a.2.2.2 == 0, ()), ())
    else
     some ((false, ()), ()))
   else
    some ((false, ()), ()))
  else
   (bif a.1 == 1 then
    (S177 k 8 a.2.1).bind fun q0 =>
    (bif q0.1.1 then
     (bif a.2.2.1 == 0 then
      (bif decide (a.2.2.2 ≥ (-2147483648)) then
       some ((decide (a.2.2.2 < 2147483648), ()), ())
      else
       some ((false, ()), ()))
     else
      some ((false, ()), ()))
    else
     some ((false, ()), ()))
   else
    (bif a.1 == 2 then
     (S177 k 8 a.2.1).bind fun q1 =>
     (bif q1.1.1 then
      (S177 k 8 a.2.2.1).bind fun q2 =>
      (bif q2.1.1 then
       some ((a.2.2.2 == 0, ()), ())
      else
       some ((false, ()), ()))
     else
      some ((false, ()), ()))
    else
     (bif a.1 == 3 then
      (S177 k 8 a.2.1).bind fun q3 =>
      (bif q3.1.1 then
       (S177 k 8 a.2.2.1).bind fun q4 =>
       (bif q4.1.1 then
        some ((a.2.2.2 == 0, ()), ())
       else
        some ((false, ()), ()))
      else
       some ((false, ()), ()))
     else
      (bif a.1 == 4 then
       (S177 k 8 a.2.1).bind fun q5 =>
       (bif q5.1.1 then
        (S177 k 8 a.2.2.1).bind fun q6 =>
        (bif q6.1.1 then
         some ((a.2.2.2 == 0, ()), ())
        else
         some ((false, ()), ()))
       else
        some ((false, ()), ()))
      else
       (bif a.1 == 5 then
        (S177 k 8 a.2.1).bind fun q7 =>
        (bif q7.1.1 then
         (bif a.2.2.1 == 0 then
          (bif decide (a.2.2.2 ≥ (-63)) then
           some ((decide (a.2.2.2 ≤ 63), ()), ())
          else
           some ((false, ()), ()))
         else
          some ((false, ()), ()))
        else
         some ((false, ()), ()))
       else
        (bif a.1 == 6 then
         (S177 k 8 a.2.1).bind fun q8 =>
         (bif q8.1.1 then
          (bif a.2.2.1 == 0 then
           (bif decide (a.2.2.2 ≥ 1) then
            some ((decide (a.2.2.2 ≤ 64), ()), ())
           else
            some ((false, ()), ()))
          else
           some ((false, ()), ()))
         else
          some ((false, ()), ()))
        else
         (bif a.1 == 7 then
          (S177 k 8 a.2.1).bind fun q9 =>
          (bif q9.1.1 then
           (bif a.2.2.1 == 0 then
            (bif decide (a.2.2.2 ≥ 1) then
             some ((decide (a.2.2.2 ≤ 24), ()), ())
            else
             some ((false, ()), ()))
           else
            some ((false, ()), ()))
          else
           some ((false, ()), ()))
         else
          (bif a.1 == 8 then
           (bif a.2.1 == 0 then
            (bif decide (a.2.2.1 ≥ 1) then
             (bif decide (a.2.2.1 ≤ 24) then
              (bif decide (a.2.2.2 ≥ 1) then
               some ((decide (a.2.2.2 ≤ 20), ()), ())
              else
               some ((false, ()), ()))
             else
              some ((false, ()), ()))
            else
             some ((false, ()), ()))
           else
            some ((false, ()), ()))
          else
           (bif a.1 == 9 then
            (bif decide (a.2.1 ≥ 0) then
             (bif decide (a.2.1 < 4) then
              (bif a.2.2.1 == 0 then
               some ((a.2.2.2 == 0, ()), ())
              else
               some ((false, ()), ()))
             else
              some ((false, ()), ()))
            else
             some ((false, ()), ()))
           else
            (bif a.1 == 10 then
             (bif decide (a.2.1 ≥ 0) then
              (bif decide (a.2.1 < 4) then
               (bif a.2.2.1 == 0 then
                some ((a.2.2.2 == 0, ()), ())
               else
                some ((false, ()), ()))
              else
               some ((false, ()), ()))
             else
              some ((false, ()), ()))
            else
             some ((false, ()), ())))))))))))))
def F129 : Fn := ⟨[.val ⟨true, Y0_9, false⟩], [.val ⟨false, .bool, true⟩], fun k x => S129 k x.1⟩
theorem ok129 : FnOK Tryz.prog 129 F129 := okF [(177, F177)] [] (fun k => .nil) ⟨ok177, trivial⟩ Tryz.func129 rfl
abbrev c174_L3 : Cut := ⟨[0, 3, 4], [.cell Y0_38, .own 279 Y0_20, cI], [], 49, []⟩
def l174_3 (k : Nat) (g3 : (List Y0_8) → Y0_35 → Int → Option ((Y0_35 × Unit) × Unit)) (a : List Y0_8) (b : List Y0_12) (c : Int) : Option ((Y0_35 × Unit) × Unit) :=
 (bif decide (c < (a.length : Int)) then
  ix a c <|
  (bif (rd a c (0, 0, 0, 0)).1 == 7 then
   ix a c <|
   ap b ([(IntKind.i64.wrap (c + 1), IntKind.i64.wrap (c + (rd a c (0, 0, 0, 0)).2.2.2), c, false)] : List Y0_12) 32 fun r0 =>
   g3 a r0 (IntKind.i64.wrap (c + 1))
  else
   (bif (rd a c (0, 0, 0, 0)).1 == 8 then
    ix a c <|
    ap b ([(IntKind.i64.wrap (c + 1), IntKind.i64.wrap (c + (rd a c (0, 0, 0, 0)).2.2.1), c, true)] : List Y0_12) 32 fun r1 =>
    g3 a r1 (IntKind.i64.wrap (c + 1))
   else
    g3 a b (IntKind.i64.wrap (c + 1))))
 else
  some ((b, ()), ()))
def b174_3 (k : Nat) (g : ((Unit) × (List Y0_8) × Y0_35 × Int × Unit) → Option ((Y0_35 × Unit) × Unit)) (d : (Unit) × (List Y0_8) × Y0_35 × Int × Unit) : Option ((Y0_35 × Unit) × Unit) := l174_3 k (fun a b c => g ((), a, b, c, ())) d.2.1 d.2.2.1 d.2.2.2.1
def L174_3 (k a : Nat) (b : List Y0_8) (c : List Y0_12) (e : Int) : Option ((Y0_35 × Unit) × Unit) := iter (R := (Y0_35 × Unit) × Unit) c174_L3 (b174_3 k) a ((), b, c, e, ())
theorem L174_3_s (k a b c e) : L174_3 k (a + 1) b c e = l174_3 k (L174_3 k a) b c e := iter_succ _ _ _ _
def S174 (k : Nat) (a : List Y0_8) : Option ((Y0_35 × Unit) × Unit) :=
 L174_3 k k a ([] : List Y0_12) 0
def F174 : Fn := ⟨[.val ⟨false, Y0_38, false⟩], [.val ⟨false, (.sl 279 Y0_20), true⟩], fun k x => S174 k x.1⟩
theorem ok174 : FnOK Tryz.prog 174 F174 := okF [] [(3, 2)] (fun k => (.loop 3 c174_L3 (b174_3 k) (fun g => .nil) .nil)) trivial Tryz.func174 rfl
def S175 (k : Nat) (a : Int × Int × Int × Bool) (b : Int) : Option Y0_14 :=
 (bif decide (a.1 ≤ b) then
  some ((decide (b ≤ a.2.1), ()), ())
 else
  some ((false, ()), ()))
def F175 : Fn := ⟨[.val ⟨true, Y0_20, false⟩, .val ⟨false, (.int .i64), false⟩], [.val ⟨false, .bool, true⟩], fun k x => S175 k x.1 x.2.1⟩
theorem ok175 : FnOK Tryz.prog 175 F175 := okF [] [] (fun k => .nil) trivial Tryz.func175 rfl
abbrev c128_L10 : Cut := ⟨[0, 4, 5, 6, 7, 8], [.cell Y0_38, .own 3 (.int .i64), .own 3 (.int .i64), .own 279 Y0_20, cI, cI], [], 117, []⟩
def l128_10 (k : Nat) (g5 : Y0_19) (g10 : (List Y0_8) → (List Int) → (List Int) → Y0_35 → Int → Int → Option Y0_27) (a : List Y0_8) (b c : List Int) (e : List Y0_12) (f h : Int) : Option Y0_27 :=
 (bif decide (h < (c.length : Int)) then
  ix c h <|
  ix a (rd c h 0) <|
  ix a f <|
  (bif (rd a (rd c h 0) (0, 0, 0, 0)).2.1 == (rd a f (0, 0, 0, 0)).2.1 then
   some (([], false, ()), ())
  else
   g10 a b c e f (IntKind.i64.wrap (h + 1)))
 else
  ap c ([f] : List Int) 8 fun r1 =>
  (bif decide ((r1.length : Int) > 2) then
   some (([], false, ()), ())
  else
   g5 a b r1 e (IntKind.i64.wrap (f + 1))))
def b128_10 (k : Nat) (g5 : Y0_19) (g : ((Unit) × (List Y0_8) × (List Int) × (List Int) × Y0_35 × Int × Int × Unit) → Option Y0_27) (d : (Unit) × (List Y0_8) × (List Int) × (List Int) × Y0_35 × Int × Int × Unit) : Option Y0_27 := l128_10 k g5 (fun a b c e f h => g ((), a, b, c, e, f, h, ())) d.2.1 d.2.2.1 d.2.2.2.1 d.2.2.2.2.1 d.2.2.2.2.2.1 d.2.2.2.2.2.2.1
def L128_10 (k : Nat) (g5 : Y0_19) (a : Nat) (b : List Y0_8) (c e : List Int) (f : List Y0_12) (h i : Int) : Option Y0_27 := iter (R := ((List Int) × Bool × Unit) × Unit) c128_L10 (b128_10 k g5) a ((), b, c, e, f, h, i, ())
theorem L128_10_s (k g5 a b c e f h i) : L128_10 k g5 (a + 1) b c e f h i = l128_10 k g5 (L128_10 k g5 a) b c e f h i := iter_succ _ _ _ _
abbrev c128_L23 : Cut := ⟨[0, 4, 5, 6, 7, 9, 10], [.cell Y0_38, .own 3 (.int .i64), .own 3 (.int .i64), .own 279 Y0_20, cI, cI, cI], [], 117, []⟩
def l128_23 (k : Nat) (g5 : Y0_19) (g23 : (List Y0_8) → (List Int) → (List Int) → Y0_35 → Int → Int → Int → Option Y0_27) (a : List Y0_8) (b c : List Int) (e : List Y0_12) (f h i : Int) : Option Y0_27 :=
 (bif decide (i < (e.length : Int)) then
  ix e i <|
  (S175 k (rd e i (0, 0, 0, false)) h).bind fun q2 =>
  ix e i <|
  (S175 k (rd e i (0, 0, 0, false)) f).bind fun q3 =>
  (bif !(q2.1.1 == q3.1.1) then
   some (([], false, ()), ())
  else
   g23 a b c e f h (IntKind.i64.wrap (i + 1)))
 else
  ix b h <|
  g5 a (upd b h f) c e (IntKind.i64.wrap (f + 1)))
def b128_23 (k : Nat) (g5 : Y0_19) (g : ((Unit) × (List Y0_8) × (List Int) × (List Int) × Y0_35 × Int × Int × Int × Unit) → Option Y0_27) (d : (Unit) × (List Y0_8) × (List Int) × (List Int) × Y0_35 × Int × Int × Int × Unit) : Option Y0_27 := l128_23 k g5 (fun a b c e f h i => g ((), a, b, c, e, f, h, i, ())) d.2.1 d.2.2.1 d.2.2.2.1 d.2.2.2.2.1 d.2.2.2.2.2.1 d.2.2.2.2.2.2.1 d.2.2.2.2.2.2.2.1
def L128_23 (k : Nat) (g5 : Y0_19) (a : Nat) (b : List Y0_8) (c e : List Int) (f : List Y0_12) (h i l : Int) : Option Y0_27 := iter (R := ((List Int) × Bool × Unit) × Unit) c128_L23 (b128_23 k g5) a ((), b, c, e, f, h, i, l, ())
theorem L128_23_s (k g5 a b c e f h i l) : L128_23 k g5 (a + 1) b c e f h i l = l128_23 k g5 (L128_23 k g5 a) b c e f h i l := iter_succ _ _ _ _
abbrev c128_L5 : Cut := ⟨[0, 4, 5, 6, 7], [.cell Y0_38, .own 3 (.int .i64), .own 3 (.int .i64), .own 279 Y0_20, cI], [], 117, []⟩
def l128_5 (k : Nat) (g5 : Y0_19) (a : List Y0_8) (b c : List Int) (e : List Y0_12) (f : Int) : Option Y0_27 :=
 (bif decide (f < (a.length : Int)) then
  ix a f <|
  (bif (rd a f (0, 0, 0, 0)).1 == 9 then
   L128_10 k g5 k a b c e f 0
  else
   (bif (rd a f (0, 0, 0, 0)).1 == 10 then
    (bif (c.length : Int) == 0 then
     some (([], false, ()), ())
    else
     ix c (IntKind.i64.wrap ((c.length : Int) - 1)) <|
     ix a (rd c (IntKind.i64.wrap ((c.length : Int) - 1)) 0) <|
     ix a f <|
     (bif (rd a (rd c (IntKind.i64.wrap ((c.length : Int) - 1)) 0) (0, 0, 0, 0)).2.1 != (rd a f (0, 0, 0, 0)).2.1 then
      some (([], false, ()), ())
     else
      ix c (IntKind.i64.wrap ((c.length : Int) - 1)) <|
      sx c 0 (IntKind.i64.wrap ((c.length : Int) - 1)) <|
      L128_23 k g5 k a b (c.take (IntKind.i64.wrap ((c.length : Int) - 1)).toNat) e f (rd c (IntKind.i64.wrap ((c.length : Int) - 1)) 0) 0))
   else
    g5 a b c e (IntKind.i64.wrap (f + 1))))
 else
  (bif decide ((c.length : Int) > 0) then
   some (([], false, ()), ())
  else
   some ((b, true, ()), ())))
def b128_5 (k : Nat) (g : ((Unit) × (List Y0_8) × (List Int) × (List Int) × Y0_35 × Int × Unit) → Option Y0_27) (d : (Unit) × (List Y0_8) × (List Int) × (List Int) × Y0_35 × Int × Unit) : Option Y0_27 := l128_5 k (fun a b c e f => g ((), a, b, c, e, f, ())) d.2.1 d.2.2.1 d.2.2.2.1 d.2.2.2.2.1 d.2.2.2.2.2.1
def L128_5 (k a : Nat) (b : List Y0_8) (c e : List Int) (f : List Y0_12) (h : Int) : Option Y0_27 := iter (R := ((List Int) × Bool × Unit) × Unit) c128_L5 (b128_5 k) a ((), b, c, e, f, h, ())
theorem L128_5_s (k a b c e f h) : L128_5 k (a + 1) b c e f h = l128_5 k (L128_5 k a) b c e f h := iter_succ _ _ _ _
def S128 (k : Nat) (a : List Y0_8) : Option Y0_27 :=
 mk (a.length : Int) (a.length : Int) 8 <|
 (S174 k a).bind fun q0 =>
 L128_5 k k a (List.replicate (a.length : Int).toNat (0 : Int)) ([] : List Int) q0.1.1 0
def F128 : Fn := ⟨[.val ⟨false, Y0_38, false⟩], [.val ⟨false, Y0_23, true⟩, .val ⟨false, .bool, true⟩], fun k x => S128 k x.1⟩
theorem ok128 : FnOK Tryz.prog 128 F128 := okF [(174, F174), (175, F175)] [(5, 2), (89, 1)] (fun k => (.loop 5 c128_L5 (b128_5 k) (fun g => (fun (g5 : Y0_19) => (.loop 10 c128_L10 (b128_10 k g5) (fun g => .nil) (.loop 23 c128_L23 (b128_23 k g5) (fun g => .nil) .nil))) (fun l_1 out open_ a i => g ((), l_1, out, open_, a, i, ()))) .nil)) ⟨ok174, ok175, trivial⟩ Tryz.func128 rfl
abbrev c176_L3 : Cut := ⟨[0, 1, 2, 7, 8], [.cell Y0_38, .cell Y0_23, cI, cI, cI], [], 37, []⟩
def l176_3 (k : Nat) (g3 : (List Y0_8) → (List Int) → Int → Int → Int → Option Y0_13) (a : List Y0_8) (b : List Int) (c e f : Int) : Option Y0_13 :=
 (bif decide (f < (a.length : Int)) then
  ix a f <|
  (bif (rd a f (0, 0, 0, 0)).1 == 9 then
   (bif decide (f < c) then
    ix b f <|
    (bif decide (c < (rd b f 0)) then
     g3 a b c (IntKind.i64.wrap (e + 1)) (IntKind.i64.wrap (f + 1))
    else
     g3 a b c e (IntKind.i64.wrap (f + 1)))
   else
    g3 a b c e (IntKind.i64.wrap (f + 1)))
  else
   g3 a b c e (IntKind.i64.wrap (f + 1)))
 else
  some ((e, ()), ()))
def b176_3 (k : Nat) (g : ((Unit) × (List Y0_8) × (List Int) × Int × Int × Int × Unit) → Option Y0_13) (d : (Unit) × (List Y0_8) × (List Int) × Int × Int × Int × Unit) : Option Y0_13 := l176_3 k (fun a b c e f => g ((), a, b, c, e, f, ())) d.2.1 d.2.2.1 d.2.2.2.1 d.2.2.2.2.1 d.2.2.2.2.2.1
def L176_3 (k a : Nat) (b : List Y0_8) (c : List Int) (e f h : Int) : Option Y0_13 := iter (R := Y0_61 × Unit) c176_L3 (b176_3 k) a ((), b, c, e, f, h, ())
theorem L176_3_s (k a b c e f h) : L176_3 k (a + 1) b c e f h = l176_3 k (L176_3 k a) b c e f h := iter_succ _ _ _ _
def S176 (k : Nat) (a : List Y0_8) (b : List Int) (c : Int) : Option Y0_13 :=
 L176_3 k k a b c 0 0
def F176 : Fn := ⟨[.val ⟨false, Y0_38, false⟩, .val ⟨false, Y0_23, false⟩, .val ⟨false, (.int .i64), false⟩], [.val ⟨false, (.int .i64), true⟩], fun k x => S176 k x.1 x.2.1 x.2.2.1⟩
theorem ok176 : FnOK Tryz.prog 176 F176 := okF [] [] (fun k => (.loop 3 c176_L3 (b176_3 k) (fun g => .nil) .nil)) trivial Tryz.func176 rfl
abbrev c126_J20 : Cut := ⟨[0, 4, 5, 6, 7, 8], [.cell Y0_38, .own 279 Y0_20, cI, cI, .cell .bool, .cell .bool], [], 235, []⟩
def j126_20 (k : Nat) (g10 : Y0_46) (g15 : Y0_63) (a : List Y0_8) (b : List Y0_12) (c e : Int) (f h : Bool) : Option Y0_14 :=
 (bif !f then
  (bif !h then
   some ((false, ()), ())
  else
   ix b c <|
   ix b e <|
   (S175 k (rd b c (0, 0, 0, false)) (rd b e (0, 0, 0, false)).2.2.1).bind fun q2 =>
   (bif q2.1.1 then
    ix b e <|
    ix b c <|
    (bif decide ((rd b e (0, 0, 0, false)).2.1 > (rd b c (0, 0, 0, false)).2.1) then
     some ((false, ()), ())
    else
     g15 a b c (IntKind.i64.wrap (e + 1)))
   else
    g15 a b c (IntKind.i64.wrap (e + 1))))
 else
  ix b c <|
  ix b e <|
  (S175 k (rd b c (0, 0, 0, false)) (rd b e (0, 0, 0, false)).2.2.1).bind fun q3 =>
  (bif q3.1.1 then
   ix b e <|
   ix b c <|
   (bif decide ((rd b e (0, 0, 0, false)).2.1 > (rd b c (0, 0, 0, false)).2.1) then
    some ((false, ()), ())
   else
    g15 a b c (IntKind.i64.wrap (e + 1)))
  else
   g15 a b c (IntKind.i64.wrap (e + 1))))
abbrev c126_J19 : Cut := ⟨[0, 4, 5, 6, 7], [.cell Y0_38, .own 279 Y0_20, cI, cI, .cell .bool], [], 235, []⟩
def j126_19 (k : Nat) (g10 : Y0_46) (g15 : Y0_63) (a : List Y0_8) (b : List Y0_12) (c e : Int) (f : Bool) : Option Y0_14 :=
 ix b c <|
 ix b e <|
 (bif decide ((rd b c (0, 0, 0, false)).1 ≤ (rd b e (0, 0, 0, false)).1) then
  ix b e <|
  ix b c <|
  (bif decide ((rd b e (0, 0, 0, false)).2.1 ≤ (rd b c (0, 0, 0, false)).2.1) then
   j126_20 k g10 g15 a b c e f true
  else
   ix b e <|
   ix b c <|
   (bif decide ((rd b e (0, 0, 0, false)).1 ≤ (rd b c (0, 0, 0, false)).1) then
    ix b c <|
    ix b e <|
    j126_20 k g10 g15 a b c e f (decide ((rd b c (0, 0, 0, false)).2.1 ≤ (rd b e (0, 0, 0, false)).2.1))
   else
    j126_20 k g10 g15 a b c e f false))
 else
  ix b e <|
  ix b c <|
  (bif decide ((rd b e (0, 0, 0, false)).1 ≤ (rd b c (0, 0, 0, false)).1) then
   ix b c <|
   ix b e <|
   j126_20 k g10 g15 a b c e f (decide ((rd b c (0, 0, 0, false)).2.1 ≤ (rd b e (0, 0, 0, false)).2.1))
  else
   j126_20 k g10 g15 a b c e f false))
abbrev c126_L15 : Cut := ⟨[0, 4, 5, 6], [.cell Y0_38, .own 279 Y0_20, cI, cI], [], 235, []⟩
def l126_15 (k : Nat) (g10 : Y0_46) (g15 : Y0_63) (a : List Y0_8) (b : List Y0_12) (c e : Int) : Option Y0_14 :=
 (bif decide (e < (b.length : Int)) then
  (bif c == e then
   g15 a b c (IntKind.i64.wrap (e + 1))
  else
   ix b c <|
   ix b e <|
   (bif decide ((rd b c (0, 0, 0, false)).2.1 < (rd b e (0, 0, 0, false)).1) then
    j126_19 k g10 g15 a b c e true
   else
    ix b e <|
    ix b c <|
    j126_19 k g10 g15 a b c e (decide ((rd b e (0, 0, 0, false)).2.1 < (rd b c (0, 0, 0, false)).1))))
 else
  g10 a b (IntKind.i64.wrap (c + 1)))
def b126_15 (k : Nat) (g10 : Y0_46) (g : ((Unit) × (List Y0_8) × Y0_35 × Int × Int × Unit) → Option Y0_14) (d : (Unit) × (List Y0_8) × Y0_35 × Int × Int × Unit) : Option Y0_14 := l126_15 k g10 (fun a b c e => g ((), a, b, c, e, ())) d.2.1 d.2.2.1 d.2.2.2.1 d.2.2.2.2.1
def L126_15 (k : Nat) (g10 : Y0_46) (a : Nat) (b : List Y0_8) (c : List Y0_12) (e f : Int) : Option Y0_14 := iter (R := (Bool × Unit) × Unit) c126_L15 (b126_15 k g10) a ((), b, c, e, f, ())
theorem L126_15_s (k g10 a b c e f) : L126_15 k g10 (a + 1) b c e f = l126_15 k g10 (L126_15 k g10 a) b c e f := iter_succ _ _ _ _
abbrev c126_L30 : Cut := ⟨[0, 4, 9, 11, 12, 13, 14], [.cell Y0_38, .own 279 Y0_20, .own 3 (.int .i64), cI, cI, cI, cI], [], 235, []⟩
def l126_30 (k : Nat) (g26 : Y0_48) (g30 : (List Y0_8) → Y0_35 → (List Int) → Int → Int → Int → Int → Option Y0_14) (a : List Y0_8) (b : List Y0_12) (c : List Int) (e f h i : Int) : Option Y0_14 :=
 (bif decide (i < (b.length : Int)) then
  ix b i <|
  (S175 k (rd b i (0, 0, 0, false)) e).bind fun q5 =>
  (bif q5.1.1 then
   ix b i <|
   (bif (rd b i (0, 0, 0, false)).2.2.2 then
    g30 a b c e (IntKind.i64.wrap (f + 1)) (IntKind.i64.wrap (h + 1)) (IntKind.i64.wrap (i + 1))
   else
    g30 a b c e f (IntKind.i64.wrap (h + 1)) (IntKind.i64.wrap (i + 1)))
  else
   g30 a b c e f h (IntKind.i64.wrap (i + 1)))
 else
  (bif decide (f > 2) then
   some ((false, ()), ())
  else
   ix a e <|
   (bif (rd a e (0, 0, 0, 0)).1 == 11 then
    (bif decide (h > 0) then
     some ((false, ()), ())
    else
     (S176 k a c e).bind fun q6 =>
     (bif decide (q6.1.1 > 0) then
      some ((false, ()), ())
     else
      g26 a b c (IntKind.i64.wrap (e + 1))))
   else
    g26 a b c (IntKind.i64.wrap (e + 1)))))
def b126_30 (k : Nat) (g26 : Y0_48) (g : ((Unit) × (List Y0_8) × Y0_35 × (List Int) × Int × Int × Int × Int × Unit) → Option Y0_14) (d : (Unit) × (List Y0_8) × Y0_35 × (List Int) × Int × Int × Int × Int × Unit) : Option Y0_14 := l126_30 k g26 (fun a b c e f h i => g ((), a, b, c, e, f, h, i, ())) d.2.1 d.2.2.1 d.2.2.2.1 d.2.2.2.2.1 d.2.2.2.2.2.1 d.2.2.2.2.2.2.1 d.2.2.2.2.2.2.2.1
def L126_30 (k : Nat) (g26 : Y0_48) (a : Nat) (b : List Y0_8) (c : List Y0_12) (e : List Int) (f h i l : Int) : Option Y0_14 := iter (R := (Bool × Unit) × Unit) c126_L30 (b126_30 k g26) a ((), b, c, e, f, h, i, l, ())
theorem L126_30_s (k g26 a b c e f h i l) : L126_30 k g26 (a + 1) b c e f h i l = l126_30 k g26 (L126_30 k g26 a) b c e f h i l := iter_succ _ _ _ _
abbrev c126_L26 : Cut := ⟨[0, 4, 9, 11], [.cell Y0_38, .own 279 Y0_20, .own 3 (.int .i64), cI], [], 235, []⟩
def l126_26 (k : Nat) (g26 : Y0_48) (a : List Y0_8) (b : List Y0_12) (c : List Int) (e : Int) : Option Y0_14 :=
 (bif decide (e < (a.length : Int)) then
  L126_30 k g26 k a b c e 0 0 0
 else
  some ((true, ()), ()))
def b126_26 (k : Nat) (g : ((Unit) × (List Y0_8) × Y0_35 × (List Int) × Int × Unit) → Option Y0_14) (d : (Unit) × (List Y0_8) × Y0_35 × (List Int) × Int × Unit) : Option Y0_14 := l126_26 k (fun a b c e => g ((), a, b, c, e, ())) d.2.1 d.2.2.1 d.2.2.2.1 d.2.2.2.2.1
def L126_26 (k a : Nat) (b : List Y0_8) (c : List Y0_12) (e : List Int) (f : Int) : Option Y0_14 := iter (R := (Bool × Unit) × Unit) c126_L26 (b126_26 k) a ((), b, c, e, f, ())
theorem L126_26_s (k a b c e f) : L126_26 k (a + 1) b c e f = l126_26 k (L126_26 k a) b c e f := iter_succ _ _ _ _
abbrev c126_L10 : Cut := ⟨[0, 4, 5], [.cell Y0_38, .own 279 Y0_20, cI], [], 235, []⟩
def l126_10 (k : Nat) (g10 : Y0_46) (a : List Y0_8) (b : List Y0_12) (c : Int) : Option Y0_14 :=
 (bif decide (c < (b.length : Int)) then
  ix b c <|
  (bif decide ((rd b c (0, 0, 0, false)).2.1 ≥ (IntKind.i64.wrap ((a.length : Int) - 1))) then
   some ((false, ()), ())
  else
   L126_15 k g10 k a b c 0)
 else
  (S128 k a).bind fun q4 =>
  (bif !q4.1.2.1 then
   some ((false, ()), ())
  else
   L126_26 k k a b q4.1.1 0))
def b126_10 (k : Nat) (g : ((Unit) × (List Y0_8) × Y0_35 × Int × Unit) → Option Y0_14) (d : (Unit) × (List Y0_8) × Y0_35 × Int × Unit) : Option Y0_14 := l126_10 k (fun a b c => g ((), a, b, c, ())) d.2.1 d.2.2.1 d.2.2.2.1
def L126_10 (k a : Nat) (b : List Y0_8) (c : List Y0_12) (e : Int) : Option Y0_14 := iter (R := (Bool × Unit) × Unit) c126_L10 (b126_10 k) a ((), b, c, e, ())
theorem L126_10_s (k a b c e) : L126_10 k (a + 1) b c e = l126_10 k (L126_10 k a) b c e := iter_succ _ _ _ _
abbrev c126_L4 : Cut := ⟨[0, 3], [.cell Y0_38, cI], [], 235, []⟩
def l126_4 (k : Nat) (g4 : (List Y0_8) → Int → Option Y0_14) (a : List Y0_8) (b : Int) : Option Y0_14 :=
 (bif decide (b < (a.length : Int)) then
  ix a b <|
  (S129 k (rd a b (0, 0, 0, 0))).bind fun q0 =>
  (bif !q0.1.1 then
   some ((false, ()), ())
  else
   ix a b <|
   (bif !(((rd a b (0, 0, 0, 0)).1 == 0) == (b == (IntKind.i64.wrap ((a.length : Int) - 1)))) then
    some ((false, ()), ())
   else
    g4 a (IntKind.i64.wrap (b + 1))))
 else
  (S174 k a).bind fun q1 =>
  L126_10 k k a q1.1.1 0)
def b126_4 (k : Nat) (g : ((Unit) × (List Y0_8) × Int × Unit) → Option Y0_14) (d : (Unit) × (List Y0_8) × Int × Unit) : Option Y0_14 := l126_4 k (fun a b => g ((), a, b, ())) d.2.1 d.2.2.1
def L126_4 (k a : Nat) (b : List Y0_8) (c : Int) : Option Y0_14 := iter (R := (Bool × Unit) × Unit) c126_L4 (b126_4 k) a ((), b, c, ())
theorem L126_4_s (k a b c) : L126_4 k (a + 1) b c = l126_4 k (L126_4 k a) b c := iter_succ _ _ _ _
def S126 (k : Nat) (a : List Y0_8) : Option Y0_14 :=
 (bif decide ((a.length : Int) < 1) then
  some ((false, ()), ())
 else
  (bif decide ((a.length : Int) > 24) then
   some ((false, ()), ())
  else
   L126_4 k k a 0))
def F126 : Fn := ⟨[.val ⟨false, Y0_38, false⟩], [.val ⟨false, .bool, true⟩], fun k x => S126 k x.1⟩
theorem ok126 : FnOK Tryz.prog 126 F126 := okF [(128, F128), (129, F129), (174, F174), (175, F175), (176, F176)] [] (fun k => (.loop 26 c126_L26 (b126_26 k) (fun g => (fun (g26 : Y0_48) => (.loop 30 c126_L30 (b126_30 k g26) (fun g => .nil) .nil)) (fun l_6 a4 pairs i5 => g ((), l_6, a4, pairs, i5, ()))) (.loop 10 c126_L10 (b126_10 k) (fun g => (fun (g10 : Y0_46) => (.loop 15 c126_L15 (b126_15 k g10) (fun g => (fun (g15 : Y0_63) => (.join 20 c126_J20 (fun d => j126_20 k g10 g15 d.2.1 d.2.2.1 d.2.2.2.1 d.2.2.2.2.1 d.2.2.2.2.2.1 d.2.2.2.2.2.2.1) (.join 19 c126_J19 (fun d => j126_19 k g10 g15 d.2.1 d.2.2.1 d.2.2.2.1 d.2.2.2.2.1 d.2.2.2.2.2.1) .nil))) (fun l_3 a1 i2 k_ => g ((), l_3, a1, i2, k_, ()))) .nil)) (fun l_2 a i1 => g ((), l_2, a, i1, ()))) (.loop 4 c126_L4 (b126_4 k) (fun g => .nil) .nil)))) ⟨ok128, ok129, ok174, ok175, ok176, trivial⟩ Tryz.func126 rfl
abbrev c127_L8 : Cut := ⟨[0, 3, 4, 5, 6], [.cell Y0_38, .own 2 (.int .i64), .own 279 Y0_20, cI, cI], [], 58, []⟩
def l127_8 (k : Nat) (g4 : Y0_49) (g8 : (List Y0_8) → (List Int) → Y0_35 → Int → Int → Option Y0_15) (a : List Y0_8) (b : List Int) (c : List Y0_12) (e f : Int) : Option Y0_15 :=
 (bif decide (f < (c.length : Int)) then
  ix c f <|
  (bif (rd c f (0, 0, 0, false)).2.2.2 then
   ix c f <|
   (S175 k (rd c f (0, 0, 0, false)) e).bind fun q1 =>
   (bif q1.1.1 then
    ix b e <|
    ix c f <|
    ix a (rd c f (0, 0, 0, false)).2.2.1 <|
    ix b e <|
    g8 a (upd b e (IntKind.i64.wrap ((rd b e 0) * (rd a (rd c f (0, 0, 0, false)).2.2.1 (0, 0, 0, 0)).2.2.2))) c e (IntKind.i64.wrap (f + 1))
   else
    g8 a b c e (IntKind.i64.wrap (f + 1)))
  else
   g8 a b c e (IntKind.i64.wrap (f + 1)))
 else
  g4 a b c (IntKind.i64.wrap (e + 1)))
def b127_8 (k : Nat) (g4 : Y0_49) (g : ((Unit) × (List Y0_8) × (List Int) × Y0_35 × Int × Int × Unit) → Option Y0_15) (d : (Unit) × (List Y0_8) × (List Int) × Y0_35 × Int × Int × Unit) : Option Y0_15 := l127_8 k g4 (fun a b c e f => g ((), a, b, c, e, f, ())) d.2.1 d.2.2.1 d.2.2.2.1 d.2.2.2.2.1 d.2.2.2.2.2.1
def L127_8 (k : Nat) (g4 : Y0_49) (a : Nat) (b : List Y0_8) (c : List Int) (e : List Y0_12) (f h : Int) : Option Y0_15 := iter (R := Y0_70 × Unit) c127_L8 (b127_8 k g4) a ((), b, c, e, f, h, ())
theorem L127_8_s (k g4 a b c e f h) : L127_8 k g4 (a + 1) b c e f h = l127_8 k g4 (L127_8 k g4 a) b c e f h := iter_succ _ _ _ _
abbrev c127_L4 : Cut := ⟨[0, 3, 4, 5], [.cell Y0_38, .own 2 (.int .i64), .own 279 Y0_20, cI], [], 58, []⟩
def l127_4 (k : Nat) (g4 : Y0_49) (a : List Y0_8) (b : List Int) (c : List Y0_12) (e : Int) : Option Y0_15 :=
 (bif decide (e < (a.length : Int)) then
  ix b e <|
  L127_8 k g4 k a (upd b e 1) c e 0
 else
  some ((b, ()), ()))
def b127_4 (k : Nat) (g : ((Unit) × (List Y0_8) × (List Int) × Y0_35 × Int × Unit) → Option Y0_15) (d : (Unit) × (List Y0_8) × (List Int) × Y0_35 × Int × Unit) : Option Y0_15 := l127_4 k (fun a b c e => g ((), a, b, c, e, ())) d.2.1 d.2.2.1 d.2.2.2.1 d.2.2.2.2.1
def L127_4 (k a : Nat) (b : List Y0_8) (c : List Int) (e : List Y0_12) (f : Int) : Option Y0_15 := iter (R := Y0_70 × Unit) c127_L4 (b127_4 k) a ((), b, c, e, f, ())
theorem L127_4_s (k a b c e f) : L127_4 k (a + 1) b c e f = l127_4 k (L127_4 k a) b c e f := iter_succ _ _ _ _
def S127 (k : Nat) (a : List Y0_8) : Option Y0_15 :=
 mk (a.length : Int) (a.length : Int) 8 <|
 (S174 k a).bind fun q0 =>
 L127_4 k k a (List.replicate (a.length : Int).toNat (0 : Int)) q0.1.1 0
def F127 : Fn := ⟨[.val ⟨false, Y0_38, false⟩], [.val ⟨false, Y0_53, true⟩], fun k x => S127 k x.1⟩
theorem ok127 : FnOK Tryz.prog 127 F127 := okF [(174, F174), (175, F175)] [] (fun k => (.loop 4 c127_L4 (b127_4 k) (fun g => (fun (g4 : Y0_49) => (.loop 8 c127_L8 (b127_8 k g4) (fun g => .nil) .nil)) (fun l_1 out a i => g ((), l_1, out, a, i, ()))) .nil)) ⟨ok174, ok175, trivial⟩ Tryz.func127 rfl
abbrev c70_L16 : Cut := ⟨[0, 2, 4, 5, 6, 8, 9, 10, 11], [.cell Y0_38, .box 161 [cI, cI, .nil], .box 161 [cI, cI, .own 230 Y0_16], .own 2 (.int .i64), .own 3 (.int .i64), cI, cI, cI, cI], [], 103, []⟩
def l70_16 (k : Nat) (g8 : Y0_17) (g16 : (List Y0_8) → Int → Int → Int → Int → Y0_21 → (List Int) → (List Int) → Int → Int → Int → Int → Option Y0_24) (a : List Y0_8) (b c e f : Int) (h : Y0_25) (i l : List Int) (m n o p : Int) : Option Y0_24 :=
 ix l n <|
 (bif decide (p ≤ (rd l n 0)) then
  ix i p <|
  g16 a b c e f h i l m n (IntKind.i64.wrap (o + (rd i p 0))) (IntKind.i64.wrap (p + 1))
 else
  ix a n <|
  ix i n <|
  nz (rd i n 0) <|
  ap h ([((rd a n (0, 0, 0, 0)).2.1, IntKind.i64.wrap (Int.tdiv o (rd i n 0)))] : List (Int × Int)) 16 fun r3 =>
  g8 a b c e f r3 i l m (IntKind.i64.wrap (n + 1)))
def b70_16 (k : Nat) (g8 : Y0_17) (g : ((Unit) × (List Y0_8) × (Int × Int × Unit × Unit) × Y0_69 × (List Int) × (List Int) × Int × Int × Int × Int × Unit) → Option Y0_24) (d : (Unit) × (List Y0_8) × (Int × Int × Unit × Unit) × Y0_69 × (List Int) × (List Int) × Int × Int × Int × Int × Unit) : Option Y0_24 := l70_16 k g8 (fun a b c e f h i l m n o p => g ((), a, (b, c, (), ()), (e, f, h, ()), i, l, m, n, o, p, ())) d.2.1 d.2.2.1.1 d.2.2.1.2.1 d.2.2.2.1.1 d.2.2.2.1.2.1 d.2.2.2.1.2.2.1 d.2.2.2.2.1 d.2.2.2.2.2.1 d.2.2.2.2.2.2.1 d.2.2.2.2.2.2.2.1 d.2.2.2.2.2.2.2.2.1 d.2.2.2.2.2.2.2.2.2.1
def L70_16 (k : Nat) (g8 : Y0_17) (a : Nat) (b : List Y0_8) (c e f h : Int) (i : Y0_25) (l m : List Int) (n o p s : Int) : Option Y0_24 := iter (R := ((Int × Int × List (Int × Int)) × Bool × Unit) × Unit) c70_L16 (b70_16 k g8) a ((), b, (c, e, (), ()), (f, h, i, ()), l, m, n, o, p, s, ())
theorem L70_16_s (k g8 a b c e f h i l m n o p s) : L70_16 k g8 (a + 1) b c e f h i l m n o p s = l70_16 k g8 (L70_16 k g8 a) b c e f h i l m n o p s := iter_succ _ _ _ _
abbrev c70_J13 : Cut := ⟨[0, 2, 4, 5, 6, 8, 9], [.cell Y0_38, .box 161 [cI, cI, .nil], .box 161 [cI, cI, .own 230 Y0_16], .own 2 (.int .i64), .own 3 (.int .i64), cI, cI], [], 103, []⟩
def j70_13 (k : Nat) (g8 : Y0_17) (a : List Y0_8) (b c e f : Int) (h : Y0_25) (i l : List Int) (m n : Int) : Option Y0_24 :=
 ix a n <|
 (bif (rd a n (0, 0, 0, 0)).1 == 9 then
  L70_16 k g8 k a b c e f h i l m n 0 (IntKind.i64.wrap (n + 1))
 else
  g8 a b c e f h i l m (IntKind.i64.wrap (n + 1)))
abbrev c70_L8 : Cut := ⟨[0, 2, 4, 5, 6, 8, 9], [.cell Y0_38, .box 161 [cI, cI, .nil], .box 161 [cI, cI, .own 230 Y0_16], .own 2 (.int .i64), .own 3 (.int .i64), cI, cI], [], 103, []⟩
def l70_8 (k : Nat) (g8 : Y0_17) (a : List Y0_8) (b c e f : Int) (h : Y0_25) (i l : List Int) (m n : Int) : Option Y0_24 :=
 (bif decide (n < (a.length : Int)) then
  ix i n <|
  ix i n <|
  ix a n <|
  (bif (rd a n (0, 0, 0, 0)).1 == 11 then
   j70_13 k g8 a b c (IntKind.i64.wrap (e + (rd i n 0))) (mx f (IntKind.i64.wrap (m + (rd i n 0)))) h i l 0 n
  else
   ix a n <|
   (bif (rd a n (0, 0, 0, 0)).1 == 0 then
    j70_13 k g8 a b c (IntKind.i64.wrap (e + (rd i n 0))) (mx f (IntKind.i64.wrap (m + (rd i n 0)))) h i l 0 n
   else
    j70_13 k g8 a b c (IntKind.i64.wrap (e + (rd i n 0))) f h i l (IntKind.i64.wrap (m + (rd i n 0))) n))
 else
  some (((e, f, h), true, ()), ()))
def b70_8 (k : Nat) (g : ((Unit) × (List Y0_8) × (Int × Int × Unit × Unit) × Y0_69 × (List Int) × (List Int) × Int × Int × Unit) → Option Y0_24) (d : (Unit) × (List Y0_8) × (Int × Int × Unit × Unit) × Y0_69 × (List Int) × (List Int) × Int × Int × Unit) : Option Y0_24 := l70_8 k (fun a b c e f h i l m n => g ((), a, (b, c, (), ()), (e, f, h, ()), i, l, m, n, ())) d.2.1 d.2.2.1.1 d.2.2.1.2.1 d.2.2.2.1.1 d.2.2.2.1.2.1 d.2.2.2.1.2.2.1 d.2.2.2.2.1 d.2.2.2.2.2.1 d.2.2.2.2.2.2.1 d.2.2.2.2.2.2.2.1
def L70_8 (k a : Nat) (b : List Y0_8) (c e f h : Int) (i : Y0_25) (l m : List Int) (n o : Int) : Option Y0_24 := iter (R := ((Int × Int × List (Int × Int)) × Bool × Unit) × Unit) c70_L8 (b70_8 k) a ((), b, (c, e, (), ()), (f, h, i, ()), l, m, n, o, ())
theorem L70_8_s (k a b c e f h i l m n o) : L70_8 k (a + 1) b c e f h i l m n o = l70_8 k (L70_8 k a) b c e f h i l m n o := iter_succ _ _ _ _
def S70 (k : Nat) (a : List Y0_8) : Option Y0_24 :=
 (S126 k a).bind fun q0 =>
 (bif !q0.1.1 then
  some (((0, 0, []), false, ()), ())
 else
  (S127 k a).bind fun q1 =>
  (S128 k a).bind fun q2 =>
  L70_8 k k a 0 0 0 0 ([] : List (Int × Int)) q1.1.1 q2.1.1 0 0)
def F70 : Fn := ⟨[.val ⟨false, Y0_38, false⟩], [.val ⟨true, (.pair (.int .i64) (.pair (.int .i64) (.sl 230 Y0_16))), true⟩, .val ⟨false, .bool, true⟩], fun k x => S70 k x.1⟩
theorem ok70 : FnOK Tryz.prog 70 F70 := okF [(126, F126), (127, F127), (128, F128)] [(16, 2)] (fun k => (.loop 8 c70_L8 (b70_8 k) (fun g => (fun (g8 : Y0_17) => (.loop 16 c70_L16 (b70_16 k g8) (fun g => .nil) (.join 13 c70_J13 (fun d => j70_13 k g8 d.2.1 d.2.2.1.1 d.2.2.1.2.1 d.2.2.2.1.1 d.2.2.2.1.2.1 d.2.2.2.1.2.2.1 d.2.2.2.2.1 d.2.2.2.2.2.1 d.2.2.2.2.2.2.1 d.2.2.2.2.2.2.2.1) .nil))) (fun l_1 t2 t2_1 c c1 c2 t pairs piece i => g ((), l_1, (t2, t2_1, (), ()), (c, c1, c2, ()), t, pairs, piece, i, ()))) .nil)) ⟨ok126, ok127, ok128, trivial⟩ Tryz.func70 rfl
abbrev c121_L2 : Cut := ⟨[0, 3], [.cell Y0_38, cI], [], 16, []⟩
def l121_2 (k : Nat) (g2 : (List Y0_8) → Int → Option Y0_14) (a : List Y0_8) (b : Int) : Option Y0_14 :=
 (bif decide (b < (a.length : Int)) then
  ix a b <|
  (bif (rd a b (0, 0, 0, 0)).1 == 9 then
   some ((true, ()), ())
  else
   g2 a (IntKind.i64.wrap (b + 1)))
 else
  some ((false, ()), ()))
def b121_2 (k : Nat) (g : ((Unit) × (List Y0_8) × Int × Unit) → Option Y0_14) (d : (Unit) × (List Y0_8) × Int × Unit) : Option Y0_14 := l121_2 k (fun a b => g ((), a, b, ())) d.2.1 d.2.2.1
def L121_2 (k a : Nat) (b : List Y0_8) (c : Int) : Option Y0_14 := iter (R := (Bool × Unit) × Unit) c121_L2 (b121_2 k) a ((), b, c, ())
theorem L121_2_s (k a b c) : L121_2 k (a + 1) b c = l121_2 k (L121_2 k a) b c := iter_succ _ _ _ _
def S121 (k : Nat) (a : List Y0_8) : Option Y0_14 :=
 L121_2 k k a 0
def F121 : Fn := ⟨[.val ⟨false, Y0_38, false⟩], [.val ⟨false, .bool, true⟩], fun k x => S121 k x.1⟩
theorem ok121 : FnOK Tryz.prog 121 F121 := okF [] [] (fun k => (.loop 2 c121_L2 (b121_2 k) (fun g => .nil) .nil)) trivial Tryz.func121 rfl
def S68 (k : Nat) (a : Y0_59) : Option Y0_13 :=
 (S70 k a.2.2.2.1).bind fun q0 =>
 (S70 k a.2.2.2.2.1).bind fun q1 =>
 (S70 k a.2.2.2.2.2).bind fun q2 =>
 (bif decide (a.1 < 0) then
  some ((1, ()), ())
 else
  (bif decide (a.1 > 63) then
   some ((1, ()), ())
  else
   (bif decide (a.2.1 < 1) then
    some ((9, ()), ())
   else
    (bif decide (a.2.1 > 16384) then
     some ((9, ()), ())
    else
     (bif decide (a.2.2.1 < 1) then
      some ((9, ()), ())
     else
      (bif decide (a.2.2.1 > a.2.1) then
       some ((9, ()), ())
      else
       (bif !q0.1.2.1 then
        some ((2, ()), ())
       else
        (bif decide ((a.2.2.2.2.1.length : Int) > 0) then
         (bif !q1.1.2.1 then
          some ((2, ()), ())
         else
          (bif decide ((a.2.2.2.2.2.length : Int) > 0) then
           (bif !q2.1.2.1 then
            some ((2, ()), ())
           else
            (S121 k a.2.2.2.2.2).bind fun q3 =>
            (bif q3.1.1 then
             some ((2, ()), ())
            else
             (bif decide (q0.1.1.1 > a.2.2.1) then
              some ((10, ()), ())
             else
              (bif decide ((a.2.2.2.2.1.length : Int) > 0) then
               (bif decide (q1.1.1.1 > q0.1.1.1) then
                some ((12, ()), ())
               else
                some ((0, ()), ()))
              else
               some ((0, ()), ())))))
          else
           (bif decide (q0.1.1.1 > a.2.2.1) then
            some ((10, ()), ())
           else
            (bif decide ((a.2.2.2.2.1.length : Int) > 0) then
             (bif decide (q1.1.1.1 > q0.1.1.1) then
              some ((12, ()), ())
             else
              some ((0, ()), ()))
            else
             some ((0, ()), ())))))
        else
         (bif decide ((a.2.2.2.2.2.length : Int) > 0) then
          (bif !q2.1.2.1 then
           some ((2, ()), ())
          else
           (S121 k a.2.2.2.2.2).bind fun q4 =>
           (bif q4.1.1 then
            some ((2, ()), ())
           else
            (bif decide (q0.1.1.1 > a.2.2.1) then
             some ((10, ()), ())
            else
             (bif decide ((a.2.2.2.2.1.length : Int) > 0) then
              (bif decide (q1.1.1.1 > q0.1.1.1) then
               some ((12, ()), ())
              else
               some ((0, ()), ()))
             else
              some ((0, ()), ())))))
         else
          (bif decide (q0.1.1.1 > a.2.2.1) then
           some ((10, ()), ())
          else
           (bif decide ((a.2.2.2.2.1.length : Int) > 0) then
            (bif decide (q1.1.1.1 > q0.1.1.1) then
             some ((12, ()), ())
            else
             some ((0, ()), ()))
           else
            some ((0, ()), ()))))))))))))
def F68 : Fn := ⟨[.val ⟨true, Y0_4, false⟩], [.val ⟨false, (.int .i64), true⟩], fun k x => S68 k x.1⟩
theorem ok68 : FnOK Tryz.prog 68 F68 := okF [(70, F70), (121, F121)] [] (fun k => .nil) ⟨ok70, ok121, trivial⟩ Tryz.func68 rfl
abbrev c122_L2 : Cut := ⟨[0, 3], [.cell Y0_57, cI], [], 34, []⟩
def l122_2 (k : Nat) (g2 : (List Y0_0) → Int → Option Y0_14) (a : List Y0_0) (b : Int) : Option Y0_14 :=
 (bif decide (b < (a.length : Int)) then
  ix a b <|
  (S68 k (rd a b (0, 0, 0, [], [], []))).bind fun q0 =>
  (bif q0.1.1 != 0 then
   some ((false, ()), ())
  else
   (bif decide (b > 0) then
    ix a b <|
    ix a (IntKind.i64.wrap (b - 1)) <|
    (bif decide ((rd a b (0, 0, 0, [], [], [])).1 ≤ (rd a (IntKind.i64.wrap (b - 1)) (0, 0, 0, [], [], [])).1) then
     some ((false, ()), ())
    else
     g2 a (IntKind.i64.wrap (b + 1)))
   else
    g2 a (IntKind.i64.wrap (b + 1))))
 else
  some ((true, ()), ()))
def b122_2 (k : Nat) (g : ((Unit) × (List Y0_0) × Int × Unit) → Option Y0_14) (d : (Unit) × (List Y0_0) × Int × Unit) : Option Y0_14 := l122_2 k (fun a b => g ((), a, b, ())) d.2.1 d.2.2.1
def L122_2 (k a : Nat) (b : List Y0_0) (c : Int) : Option Y0_14 := iter (R := (Bool × Unit) × Unit) c122_L2 (b122_2 k) a ((), b, c, ())
theorem L122_2_s (k a b c) : L122_2 k (a + 1) b c = l122_2 k (L122_2 k a) b c := iter_succ _ _ _ _
def S122 (k : Nat) (a : List Y0_0) : Option Y0_14 :=
 L122_2 k k a 0
def F122 : Fn := ⟨[.val ⟨false, Y0_57, false⟩], [.val ⟨false, .bool, true⟩], fun k x => S122 k x.1⟩
theorem ok122 : FnOK Tryz.prog 122 F122 := okF [(68, F68)] [] (fun k => (.loop 2 c122_L2 (b122_2 k) (fun g => .nil) .nil)) ⟨ok68, trivial⟩ Tryz.func122 rfl
abbrev c124_J8 : Cut := ⟨[5, 7, 9], [.box 161 [cI, cI, .own 230 Y0_16], .box 161 [cI, cI, .own 230 Y0_16], cI], [], 43, []⟩
def j124_8 (k : Nat) (a b : Int) (c : Y0_25) (e f : Int) (h : Y0_25) (i : Int) : Option (Y0_69 × Unit) :=
 ap ([] : List (Int × Int)) c 16 fun r3 =>
 ap r3 h 16 fun r4 =>
 some ((a, i, r4, ()), ())
def S124 (k : Nat) (a : Y0_59) : Option (Y0_69 × Unit) :=
 (S68 k a).bind fun q0 =>
 (bif q0.1.1 != 0 then
  some ((0, 0, [], ()), ())
 else
  (S70 k a.2.2.2.1).bind fun q1 =>
  (S70 k a.2.2.2.2.1).bind fun q2 =>
  (bif decide ((a.2.2.2.2.1.length : Int) > 0) then
   j124_8 k q1.1.1.1 q1.1.1.2.1 q1.1.1.2.2 q2.1.1.1 q2.1.1.2.1 q2.1.1.2.2 q2.1.1.1
  else
   j124_8 k q1.1.1.1 q1.1.1.2.1 q1.1.1.2.2 q2.1.1.1 q2.1.1.2.1 q2.1.1.2.2 q1.1.1.2.1))
def F124 : Fn := ⟨[.val ⟨true, Y0_4, false⟩], [.val ⟨false, (.int .i64), true⟩, .val ⟨false, (.int .i64), true⟩, .val ⟨false, (.sl 230 Y0_16), true⟩], fun k x => S124 k x.1⟩
theorem ok124 : FnOK Tryz.prog 124 F124 := okF [(68, F68), (70, F70)] [] (fun k => (.join 8 c124_J8 (fun d => j124_8 k d.2.1.1 d.2.1.2.1 d.2.1.2.2.1 d.2.2.1.1 d.2.2.1.2.1 d.2.2.1.2.2.1 d.2.2.2.1) .nil)) ⟨ok68, ok70, trivial⟩ Tryz.func124 rfl
abbrev c41_L6 : Cut := ⟨[0, 1, 5, 6, 7], [.cell Y0_57, cI, cI, .own 87 Y0_9, cI], [], 49, []⟩
def l41_6 (k : Nat) (g2 : Y0_62) (g6 : (List Y0_0) → Int → Int → (List Y0_8) → Int → Option Y0_13) (a : List Y0_0) (b c : Int) (e : List Y0_8) (f : Int) : Option Y0_13 :=
 (bif decide (f < (e.length : Int)) then
  ix e f <|
  (bif (rd e f (0, 0, 0, 0)).1 == 9 then
   ix e f <|
   (bif (rd e f (0, 0, 0, 0)).2.1 == b then
    some ((c, ()), ())
   else
    g6 a b c e (IntKind.i64.wrap (f + 1)))
  else
   g6 a b c e (IntKind.i64.wrap (f + 1)))
 else
  g2 a b (IntKind.i64.wrap (c + 1)))
def b41_6 (k : Nat) (g2 : Y0_62) (g : ((Unit) × (List Y0_0) × Int × Int × (List Y0_8) × Int × Unit) → Option Y0_13) (d : (Unit) × (List Y0_0) × Int × Int × (List Y0_8) × Int × Unit) : Option Y0_13 := l41_6 k g2 (fun a b c e f => g ((), a, b, c, e, f, ())) d.2.1 d.2.2.1 d.2.2.2.1 d.2.2.2.2.1 d.2.2.2.2.2.1
def L41_6 (k : Nat) (g2 : Y0_62) (a : Nat) (b : List Y0_0) (c e : Int) (f : List Y0_8) (h : Int) : Option Y0_13 := iter (R := Y0_61 × Unit) c41_L6 (b41_6 k g2) a ((), b, c, e, f, h, ())
theorem L41_6_s (k g2 a b c e f h) : L41_6 k g2 (a + 1) b c e f h = l41_6 k g2 (L41_6 k g2 a) b c e f h := iter_succ _ _ _ _
abbrev c41_L2 : Cut := ⟨[0, 1, 5], [.cell Y0_57, cI, cI], [], 49, []⟩
def l41_2 (k : Nat) (g2 : Y0_62) (a : List Y0_0) (b c : Int) : Option Y0_13 :=
 (bif decide (c < (a.length : Int)) then
  ix a c <|
  ap ([] : List Y0_8) (rd a c (0, 0, 0, [], [], [])).2.2.2.1 32 fun r0 =>
  ix a c <|
  ap r0 (rd a c (0, 0, 0, [], [], [])).2.2.2.2.1 32 fun r1 =>
  L41_6 k g2 k a b c r1 0
 else
  some ((8, ()), ()))
def b41_2 (k : Nat) (g : ((Unit) × (List Y0_0) × Int × Int × Unit) → Option Y0_13) (d : (Unit) × (List Y0_0) × Int × Int × Unit) : Option Y0_13 := l41_2 k (fun a b c => g ((), a, b, c, ())) d.2.1 d.2.2.1 d.2.2.2.1
def L41_2 (k a : Nat) (b : List Y0_0) (c e : Int) : Option Y0_13 := iter (R := Y0_61 × Unit) c41_L2 (b41_2 k) a ((), b, c, e, ())
theorem L41_2_s (k a b c e) : L41_2 k (a + 1) b c e = l41_2 k (L41_2 k a) b c e := iter_succ _ _ _ _
def S41 (k : Nat) (a : List Y0_0) (b : Int) : Option Y0_13 :=
 L41_2 k k a b 0
def F41 : Fn := ⟨[.val ⟨false, Y0_57, false⟩, .val ⟨false, (.int .i64), false⟩], [.val ⟨false, (.int .i64), true⟩], fun k x => S41 k x.1 x.2.1⟩
theorem ok41 : FnOK Tryz.prog 41 F41 := okF [] [] (fun k => (.loop 2 c41_L2 (b41_2 k) (fun g => (fun (g2 : Y0_62) => (.loop 6 c41_L6 (b41_6 k g2) (fun g => .nil) .nil)) (fun l_1 s1 i => g ((), l_1, s1, i, ()))) .nil)) trivial Tryz.func41 rfl
abbrev c125_L8 : Cut := ⟨[0, 1, 5, 6, 9, 10], [.cell Y0_57, cI, cI, cI, .own 230 Y0_16, cI], [], 52, []⟩
def l125_8 (k : Nat) (g3 : Y0_47) (g8 : (List Y0_0) → Int → Int → Int → Y0_21 → Int → Option Y0_13) (a : List Y0_0) (b c e : Int) (f : Y0_25) (h : Int) : Option Y0_13 :=
 (bif decide (h < (f.length : Int)) then
  ix f h <|
  (S41 k a (rd f h (0, 0)).1).bind fun q1 =>
  (bif decide (q1.1.1 ≤ b) then
   ix f h <|
   g8 a b (mx c (rd f h (0, 0)).2) e f (IntKind.i64.wrap (h + 1))
  else
   g8 a b c e f (IntKind.i64.wrap (h + 1)))
 else
  g3 a b c (IntKind.i64.wrap (e + 1)))
def b125_8 (k : Nat) (g3 : Y0_47) (g : ((Unit) × (List Y0_0) × Int × Int × Int × Y0_21 × Int × Unit) → Option Y0_13) (d : (Unit) × (List Y0_0) × Int × Int × Int × Y0_21 × Int × Unit) : Option Y0_13 := l125_8 k g3 (fun a b c e f h => g ((), a, b, c, e, f, h, ())) d.2.1 d.2.2.1 d.2.2.2.1 d.2.2.2.2.1 d.2.2.2.2.2.1 d.2.2.2.2.2.2.1
def L125_8 (k : Nat) (g3 : Y0_47) (a : Nat) (b : List Y0_0) (c e f : Int) (h : Y0_25) (i : Int) : Option Y0_13 := iter (R := Y0_61 × Unit) c125_L8 (b125_8 k g3) a ((), b, c, e, f, h, i, ())
theorem L125_8_s (k g3 a b c e f h i) : L125_8 k g3 (a + 1) b c e f h i = l125_8 k g3 (L125_8 k g3 a) b c e f h i := iter_succ _ _ _ _
abbrev c125_L3 : Cut := ⟨[0, 1, 5, 6], [.cell Y0_57, cI, cI, cI], [], 52, []⟩
def l125_3 (k : Nat) (g3 : Y0_47) (a : List Y0_0) (b c e : Int) : Option Y0_13 :=
 (bif decide (e < (a.length : Int)) then
  (bif e == b then
   g3 a b c (IntKind.i64.wrap (e + 1))
  else
   ix a e <|
   (S124 k (rd a e (0, 0, 0, [], [], []))).bind fun q0 =>
   L125_8 k g3 k a b c e q0.1.2.2.1 0)
 else
  some ((c, ()), ()))
def b125_3 (k : Nat) (g : ((Unit) × (List Y0_0) × Int × Int × Int × Unit) → Option Y0_13) (d : (Unit) × (List Y0_0) × Int × Int × Int × Unit) : Option Y0_13 := l125_3 k (fun a b c e => g ((), a, b, c, e, ())) d.2.1 d.2.2.1 d.2.2.2.1 d.2.2.2.2.1
def L125_3 (k a : Nat) (b : List Y0_0) (c e f : Int) : Option Y0_13 := iter (R := Y0_61 × Unit) c125_L3 (b125_3 k) a ((), b, c, e, f, ())
theorem L125_3_s (k a b c e f) : L125_3 k (a + 1) b c e f = l125_3 k (L125_3 k a) b c e f := iter_succ _ _ _ _
def S125 (k : Nat) (a : List Y0_0) (b : Int) : Option Y0_13 :=
 L125_3 k k a b 0 0
def F125 : Fn := ⟨[.val ⟨false, Y0_57, false⟩, .val ⟨false, (.int .i64), false⟩], [.val ⟨false, (.int .i64), true⟩], fun k x => S125 k x.1 x.2.1⟩
theorem ok125 : FnOK Tryz.prog 125 F125 := okF [(41, F41), (124, F124)] [] (fun k => (.loop 3 c125_L3 (b125_3 k) (fun g => (fun (g3 : Y0_47) => (.loop 8 c125_L8 (b125_8 k g3) (fun g => .nil) .nil)) (fun l_1 i1 most k_ => g ((), l_1, i1, most, k_, ()))) .nil)) ⟨ok41, ok124, trivial⟩ Tryz.func125 rfl
abbrev c172_L3 : Cut := ⟨[0, 1, 4, 5, 6], [.cell Y0_57, cI, .box 272 [.nil, cI, cI, .nil], .box 272 [.own 2 (.int .i64), cI, cI, .own 2 (.int .i64)], cI], [], 50, []⟩
def l172_3 (k : Nat) (g3 : (List Y0_0) → Int → Int → Int → (List Int) → Int → Int → (List Int) → Int → Option Y0_41) (a : List Y0_0) (b c e : Int) (x : List Int) (f h : Int) (i : List Int) (l : Int) : Option Y0_41 :=
 (bif decide (l ≤ b) then
  ix a l <|
  (S124 k (rd a l (0, 0, 0, [], [], []))).bind fun q1 =>
  ap x ([q1.1.1] : List Int) 8 fun r2 =>
  ix a l <|
  ap i ([(rd a l (0, 0, 0, [], [], [])).2.1] : List Int) 8 fun r3 =>
  g3 a b c e r2 (mx f q1.1.2.1) h r3 (IntKind.i64.wrap (l + 1))
 else
  some (((x, f, h, i), ()), ()))
def b172_3 (k : Nat) (g : ((Unit) × (List Y0_0) × Int × (Unit × Int × Int × Unit × Unit) × Y0_51 × Int × Unit) → Option Y0_41) (d : (Unit) × (List Y0_0) × Int × (Unit × Int × Int × Unit × Unit) × Y0_51 × Int × Unit) : Option Y0_41 := l172_3 k (fun a b c e x f h i l => g ((), a, b, ((), c, e, (), ()), (x, f, h, i, ()), l, ())) d.2.1 d.2.2.1 d.2.2.2.1.2.1 d.2.2.2.1.2.2.1 d.2.2.2.2.1.1 d.2.2.2.2.1.2.1 d.2.2.2.2.1.2.2.1 d.2.2.2.2.1.2.2.2.1 d.2.2.2.2.2.1
def L172_3 (k a : Nat) (b : List Y0_0) (c e f : Int) (x : List Int) (h i : Int) (l : List Int) (m : Int) : Option Y0_41 := iter (R := (((List Int) × Int × Int × List Int) × Unit) × Unit) c172_L3 (b172_3 k) a ((), b, c, ((), e, f, (), ()), (x, h, i, l, ()), m, ())
theorem L172_3_s (k a b c e f x h i l m) : L172_3 k (a + 1) b c e f x h i l m = l172_3 k (L172_3 k a) b c e f x h i l m := iter_succ _ _ _ _
def S172 (k : Nat) (a : List Y0_0) (b : Int) : Option Y0_41 :=
 (S125 k a b).bind fun q0 =>
 L172_3 k k a b 0 0 ([] : List Int) 0 q0.1.1 ([] : List Int) 0
def F172 : Fn := ⟨[.val ⟨false, Y0_57, false⟩, .val ⟨false, (.int .i64), false⟩], [.val ⟨true, (.pair Y0_53 (.pair (.int .i64) (.pair (.int .i64) Y0_53))), true⟩], fun k x => S172 k x.1 x.2.1⟩
theorem ok172 : FnOK Tryz.prog 172 F172 := okF [(124, F124), (125, F125)] [(13, 2)] (fun k => (.loop 3 c172_L3 (b172_3 k) (fun g => .nil) .nil)) ⟨ok124, ok125, trivial⟩ Tryz.func172 rfl
def S218 (k : Nat) (a b : Int) : Option Y0_29 :=
 (bif decide (a > (IntKind.i64.wrap (9223372036854775807 - b))) then
  some ((0, false, ()), ())
 else
  some ((IntKind.i64.wrap (a + b), true, ()), ()))
def F218 : Fn := ⟨[.val ⟨false, (.int .i64), false⟩, .val ⟨false, (.int .i64), false⟩], [.val ⟨false, (.int .i64), true⟩, .val ⟨false, .bool, true⟩], fun k x => S218 k x.1 x.2.1⟩
theorem ok218 : FnOK Tryz.prog 218 F218 := okF [] [] (fun k => .nil) trivial Tryz.func218 rfl
def S219 (k : Nat) (a b : Int) : Option Y0_29 :=
 (bif decide (b < 1) then
  some ((0, false, ()), ())
 else
  (bif decide (a < 0) then
   some ((0, false, ()), ())
  else
   nz b <|
   nz b <|
   (bif decide ((Int.tmod a b) > 0) then
    some ((IntKind.i64.wrap ((IntKind.i64.wrap (Int.tdiv a b)) + 1), true, ()), ())
   else
    some ((IntKind.i64.wrap (Int.tdiv a b), true, ()), ()))))
def F219 : Fn := ⟨[.val ⟨false, (.int .i64), false⟩, .val ⟨false, (.int .i64), false⟩], [.val ⟨false, (.int .i64), true⟩, .val ⟨false, .bool, true⟩], fun k x => S219 k x.1 x.2.1⟩
theorem ok219 : FnOK Tryz.prog 219 F219 := okF [] [] (fun k => .nil) trivial Tryz.func219 rfl
def S220 (k : Nat) (a b : Int) : Option Y0_29 :=
 (bif decide (a > 0) then
  nz a <|
  (bif decide (b > (IntKind.i64.wrap (Int.tdiv 9223372036854775807 a))) then
   some ((0, false, ()), ())
  else
   some ((IntKind.i64.wrap (a * b), true, ()), ()))
 else
  some ((IntKind.i64.wrap (a * b), true, ()), ()))
def F220 : Fn := ⟨[.val ⟨false, (.int .i64), false⟩, .val ⟨false, (.int .i64), false⟩], [.val ⟨false, (.int .i64), true⟩, .val ⟨false, .bool, true⟩], fun k x => S220 k x.1 x.2.1⟩
theorem ok220 : FnOK Tryz.prog 220 F220 := okF [] [] (fun k => .nil) trivial Tryz.func220 rfl
abbrev c173_L9 : Cut := ⟨[2, 3, 8, 9, 10, 15], [cI, .box 272 [.cell Y0_53, cI, cI, .cell Y0_53], cI, cI, .cell .bool, cI], [], 94, []⟩
def l173_9 (k : Nat) (g9 : Int → (List Int) → Int → Int → (List Int) → Int → Int → Bool → Int → Option Y0_29) (a : Int) (b : List Int) (c e : Int) (f : List Int) (h i : Int) (l : Bool) (m : Int) : Option Y0_29 :=
 (bif decide (m < h) then
  (bif l then
   ix f m <|
   (S219 k a (rd f m 0)).bind fun q4 =>
   ix b m <|
   (S220 k q4.1.1 (rd b m 0)).bind fun q5 =>
   (bif q5.1.2.1 then
    (S218 k i q5.1.1).bind fun q6 =>
    g9 a b c e f h q6.1.1 q6.1.2.1 (IntKind.i64.wrap (m + 1))
   else
    g9 a b c e f h i q5.1.2.1 (IntKind.i64.wrap (m + 1)))
  else
   some ((i, l, ()), ()))
 else
  some ((i, l, ()), ()))
def b173_9 (k : Nat) (g : ((Unit) × Int × Y0_51 × Int × Int × Bool × Int × Unit) → Option Y0_29) (d : (Unit) × Int × Y0_51 × Int × Int × Bool × Int × Unit) : Option Y0_29 := l173_9 k (fun a b c e f h i l m => g ((), a, (b, c, e, f, ()), h, i, l, m, ())) d.2.1 d.2.2.1.1 d.2.2.1.2.1 d.2.2.1.2.2.1 d.2.2.1.2.2.2.1 d.2.2.2.1 d.2.2.2.2.1 d.2.2.2.2.2.1 d.2.2.2.2.2.2.1
def L173_9 (k a : Nat) (b : Int) (c : List Int) (e f : Int) (h : List Int) (i l : Int) (m : Bool) (n : Int) : Option Y0_29 := iter (R := (Int × Bool × Unit) × Unit) c173_L9 (b173_9 k) a ((), b, (c, e, f, h, ()), i, l, m, n, ())
theorem L173_9_s (k a b c e f h i l m n) : L173_9 k (a + 1) b c e f h i l m n = l173_9 k (L173_9 k a) b c e f h i l m n := iter_succ _ _ _ _
abbrev c173_J6 : Cut := ⟨[2, 3, 8, 9, 10, 13], [cI, .box 272 [.cell Y0_53, cI, cI, .cell Y0_53], cI, cI, .cell .bool, cI], [], 94, []⟩
def j173_6 (k : Nat) (a : Int) (b : List Int) (c e : Int) (f : List Int) (h i : Int) (l : Bool) (m : Int) : Option Y0_29 :=
 (bif l then
  (S218 k i m).bind fun q3 =>
  L173_9 k k a b c e f h q3.1.1 q3.1.2.1 0
 else
  L173_9 k k a b c e f h i l 0)
def S173 (k : Nat) (x : (List Int) × Int × Int × List Int) (a b : Int) : Option Y0_29 :=
 ix x.1 (IntKind.i64.wrap ((x.1.length : Int) - 1)) <|
 (S218 k (rd x.1 (IntKind.i64.wrap ((x.1.length : Int) - 1)) 0) x.2.2.1).bind fun q0 =>
 (S219 k b a).bind fun q1 =>
 (S220 k q1.1.1 x.2.1).bind fun q2 =>
 (bif q0.1.2.1 then
  j173_6 k b x.1 x.2.1 x.2.2.1 x.2.2.2 (IntKind.i64.wrap ((x.1.length : Int) - 1)) q0.1.1 q2.1.2.1 q2.1.1
 else
  j173_6 k b x.1 x.2.1 x.2.2.1 x.2.2.2 (IntKind.i64.wrap ((x.1.length : Int) - 1)) q0.1.1 false q2.1.1)
def F173 : Fn := ⟨[.val ⟨true, (.pair Y0_53 (.pair (.int .i64) (.pair (.int .i64) Y0_53))), false⟩, .val ⟨false, (.int .i64), false⟩, .val ⟨false, (.int .i64), false⟩], [.val ⟨false, (.int .i64), true⟩, .val ⟨false, .bool, true⟩], fun k x => S173 k x.1 x.2.1 x.2.2.1⟩
theorem ok173 : FnOK Tryz.prog 173 F173 := okF [(218, F218), (219, F219), (220, F220)] [] (fun k => (.loop 9 c173_L9 (b173_9 k) (fun g => .nil) (.join 6 c173_J6 (fun d => j173_6 k d.2.1 d.2.2.1.1 d.2.2.1.2.1 d.2.2.1.2.2.1 d.2.2.1.2.2.2.1 d.2.2.2.1 d.2.2.2.2.1 d.2.2.2.2.2.1 d.2.2.2.2.2.2.1) .nil))) ⟨ok218, ok219, ok220, trivial⟩ Tryz.func173 rfl
abbrev c123_L7 : Cut := ⟨[0, 1, 2, 9, 10, 11], [.cell Y0_57, cI, cI, .box 272 [.own 2 (.int .i64), cI, cI, .own 2 (.int .i64)], cI, cI], [], 66, []⟩
def l123_7 (k : Nat) (g7 : (List Y0_0) → Int → Int → (List Int) → Int → Int → (List Int) → Int → Int → Option Y0_60) (a : List Y0_0) (b c : Int) (x : List Int) (e f : Int) (h : List Int) (i l : Int) : Option Y0_60 :=
 (S173 k (x, e, f, h) c i).bind fun q2 =>
 (bif !q2.1.2.1 then
  some ((0, 0, 13, ()), ())
 else
  ix a b <|
  (bif decide (q2.1.1 > (rd a b (0, 0, 0, [], [], [])).2.2.1) then
   some ((0, 0, 14, ()), ())
  else
   (bif q2.1.1 == i then
    some ((i, l, 0, ()), ())
   else
    g7 a b c x e f h q2.1.1 (IntKind.i64.wrap (l + 1)))))
def b123_7 (k : Nat) (g : ((Unit) × (List Y0_0) × Int × Int × Y0_51 × Int × Int × Unit) → Option Y0_60) (d : (Unit) × (List Y0_0) × Int × Int × Y0_51 × Int × Int × Unit) : Option Y0_60 := l123_7 k (fun a b c x e f h i l => g ((), a, b, c, (x, e, f, h, ()), i, l, ())) d.2.1 d.2.2.1 d.2.2.2.1 d.2.2.2.2.1.1 d.2.2.2.2.1.2.1 d.2.2.2.2.1.2.2.1 d.2.2.2.2.1.2.2.2.1 d.2.2.2.2.2.1 d.2.2.2.2.2.2.1
def L123_7 (k a : Nat) (b : List Y0_0) (c e : Int) (x : List Int) (f h : Int) (i : List Int) (l m : Int) : Option Y0_60 := iter (R := (Int × Int × Int × Unit) × Unit) c123_L7 (b123_7 k) a ((), b, c, e, (x, f, h, i, ()), l, m, ())
theorem L123_7_s (k a b c e x f h i l m) : L123_7 k (a + 1) b c e x f h i l m = l123_7 k (L123_7 k a) b c e x f h i l m := iter_succ _ _ _ _
def S123 (k : Nat) (a : List Y0_0) (b c : Int) : Option Y0_60 :=
 (S122 k a).bind fun q0 =>
 (bif !q0.1.1 then
  some ((0, 0, 1, ()), ())
 else
  (bif decide (b < 0) then
   some ((0, 0, 1, ()), ())
  else
   (bif decide (b ≥ (a.length : Int)) then
    some ((0, 0, 1, ()), ())
   else
    (bif decide (c < 1) then
     some ((0, 0, 1, ()), ())
    else
     (S172 k a b).bind fun q1 =>
     ix q1.1.1.1 b <|
     L123_7 k k a b c q1.1.1.1 q1.1.1.2.1 q1.1.1.2.2.1 q1.1.1.2.2.2 (IntKind.i64.wrap ((rd q1.1.1.1 b 0) + q1.1.1.2.2.1)) 1))))
def F123 : Fn := ⟨[.val ⟨false, Y0_57, false⟩, .val ⟨false, (.int .i64), false⟩, .val ⟨false, (.int .i64), false⟩], [.val ⟨false, (.int .i64), true⟩, .val ⟨false, (.int .i64), true⟩, .val ⟨false, (.int .i64), true⟩], fun k x => S123 k x.1 x.2.1 x.2.2.1⟩
theorem ok123 : FnOK Tryz.prog 123 F123 := okF [(122, F122), (172, F172), (173, F173)] [] (fun k => (.loop 7 c123_L7 (b123_7 k) (fun g => .nil) .nil)) ⟨ok122, ok172, ok173, trivial⟩ Tryz.func123 rfl
abbrev c69_L5 : Cut := ⟨[0, 1, 6, 7], [.cell Y0_57, cI, .own 96 Y0_33, cI], [], 65, []⟩
def l69_5 (k : Nat) (g5 : (List Y0_0) → Int → Y0_37 → Int → Option Y0_66) (a : List Y0_0) (b : Int) (c : List (PN Int 5)) (e : Int) : Option Y0_66 :=
 (bif decide (e < (a.length : Int)) then
  (S123 k a e b).bind fun q1 =>
  (bif q1.1.2.2.1 != 0 then
   some (([], q1.1.2.2.1, ()), ())
  else
   ix a e <|
   (S124 k (rd a e (0, 0, 0, [], [], []))).bind fun q2 =>
   (S125 k a e).bind fun q3 =>
   ix a e <|
   ap c ([(q2.1.1, q2.1.2.1, q3.1.1, q1.1.1, IntKind.i64.wrap ((rd a e (0, 0, 0, [], [], [])).2.2.1 - q1.1.1))] : List (PN Int 5)) 40 fun r4 =>
   g5 a b r4 (IntKind.i64.wrap (e + 1)))
 else
  some ((c, 0, ()), ()))
def b69_5 (k : Nat) (g : ((Unit) × (List Y0_0) × Int × Y0_37 × Int × Unit) → Option Y0_66) (d : (Unit) × (List Y0_0) × Int × Y0_37 × Int × Unit) : Option Y0_66 := l69_5 k (fun a b c e => g ((), a, b, c, e, ())) d.2.1 d.2.2.1 d.2.2.2.1 d.2.2.2.2.1
def L69_5 (k a : Nat) (b : List Y0_0) (c : Int) (e : List (PN Int 5)) (f : Int) : Option Y0_66 := iter (R := (Y0_37 × Int × Unit) × Unit) c69_L5 (b69_5 k) a ((), b, c, e, f, ())
theorem L69_5_s (k a b c e f) : L69_5 k (a + 1) b c e f = l69_5 k (L69_5 k a) b c e f := iter_succ _ _ _ _
def S69 (k : Nat) (a : List Y0_0) (b : Int) : Option Y0_66 :=
 (S122 k a).bind fun q0 =>
 (bif !q0.1.1 then
  some (([], 1, ()), ())
 else
  (bif decide (b < 1) then
   some (([], 1, ()), ())
  else
   L69_5 k k a b ([] : List (PN Int 5)) 0))
def F69 : Fn := ⟨[.val ⟨false, Y0_57, false⟩, .val ⟨false, (.int .i64), false⟩], [.val ⟨false, (.sl 96 Y0_33), true⟩, .val ⟨false, (.int .i64), true⟩], fun k x => S69 k x.1 x.2.1⟩
theorem ok69 : FnOK Tryz.prog 69 F69 := okF [(122, F122), (123, F123), (124, F124), (125, F125)] [(6, 2)] (fun k => (.loop 5 c69_L5 (b69_5 k) (fun g => .nil) .nil)) ⟨ok122, ok123, ok124, ok125, trivial⟩ Tryz.func69 rfl
abbrev c28_L6 : Cut := ⟨[0, 2, 4, 10, 11], [.cell Y0_57, cI, .box 77 [cI, cI, cI, .cell Y0_38, .cell Y0_38, .cell Y0_38], cI, cI], [], 69, []⟩
def l28_6 (k : Nat) (g6 : (List Y0_0) → Int → Int → Int → Int → (List Y0_8) → (List Y0_8) → (List Y0_8) → Int → Int → Option Y0_52) (a : List Y0_0) (b c e f : Int) (h i l : List Y0_8) (m n : Int) : Option Y0_52 :=
 (bif decide (n < (a.length : Int)) then
  ix a n <|
  (bif (rd a n (0, 0, 0, [], [], [])).1 == c then
   some (([], [], 11, ()), ())
  else
   ix a n <|
   (bif decide ((rd a n (0, 0, 0, [], [], [])).1 < c) then
    g6 a b c e f h i l (IntKind.i64.wrap (n + 1)) (IntKind.i64.wrap (n + 1))
   else
    g6 a b c e f h i l m (IntKind.i64.wrap (n + 1))))
 else
  (bif decide ((a.length : Int) ≥ 8) then
   some (([], [], 4, ()), ())
  else
   sx a 0 m <|
   ap ([] : List Y0_0) (sub a 0 m) 96 fun r1 =>
   ap r1 ([(c, e, f, h, i, l)] : List Y0_0) 96 fun r2 =>
   sx a m (a.length : Int) <|
   ap r2 (sub a m (a.length : Int)) 96 fun r3 =>
   (S69 k r3 b).bind fun q4 =>
   (bif q4.1.2.1 != 0 then
    some (([], [], q4.1.2.1, ()), ())
   else
    some ((r3, q4.1.1, 0, ()), ()))))
def b28_6 (k : Nat) (g : ((Unit) × (List Y0_0) × Int × (Int × Int × Int × (List Y0_8) × (List Y0_8) × (List Y0_8) × Unit) × Int × Int × Unit) → Option Y0_52) (d : (Unit) × (List Y0_0) × Int × (Int × Int × Int × (List Y0_8) × (List Y0_8) × (List Y0_8) × Unit) × Int × Int × Unit) : Option Y0_52 := l28_6 k (fun a b c e f h i l m n => g ((), a, b, (c, e, f, h, i, l, ()), m, n, ())) d.2.1 d.2.2.1 d.2.2.2.1.1 d.2.2.2.1.2.1 d.2.2.2.1.2.2.1 d.2.2.2.1.2.2.2.1 d.2.2.2.1.2.2.2.2.1 d.2.2.2.1.2.2.2.2.2.1 d.2.2.2.2.1 d.2.2.2.2.2.1
def L28_6 (k a : Nat) (b : List Y0_0) (c e f h : Int) (i l m : List Y0_8) (n o : Int) : Option Y0_52 := iter (R := ((List Y0_0) × Y0_37 × Int × Unit) × Unit) c28_L6 (b28_6 k) a ((), b, c, (e, f, h, i, l, m, ()), n, o, ())
theorem L28_6_s (k a b c e f h i l m n o) : L28_6 k (a + 1) b c e f h i l m n o = l28_6 k (L28_6 k a) b c e f h i l m n o := iter_succ _ _ _ _
def S28 (k : Nat) (a : List Y0_0) (b : Y0_59) (c : Int) : Option Y0_52 :=
 (S68 k b).bind fun q0 =>
 (bif q0.1.1 != 0 then
  some (([], [], q0.1.1, ()), ())
 else
  L28_6 k k a c b.1 b.2.1 b.2.2.1 b.2.2.2.1 b.2.2.2.2.1 b.2.2.2.2.2 0 0)
def F28 : Fn := ⟨[.val ⟨false, Y0_57, false⟩, .val ⟨true, Y0_4, false⟩, .val ⟨false, (.int .i64), false⟩], [.val ⟨false, Y0_57, true⟩, .val ⟨false, (.sl 96 Y0_33), true⟩, .val ⟨false, (.int .i64), true⟩], fun k x => S28 k x.1 x.2.1 x.2.2.1⟩
theorem ok28 : FnOK Tryz.prog 28 F28 := okF [(68, F68), (69, F69)] [] (fun k => (.loop 6 c28_L6 (b28_6 k) (fun g => .nil) .nil)) ⟨ok68, ok69, trivial⟩ Tryz.func28 rfl
def S77 (k : Nat) (a : List Y0_0) : Option (((List Y0_0) × Unit) × Unit) := cloneSem 96 77 Y0_4 k (a, ())
def F77 : Fn := ⟨clonePs 77 Y0_4, cloneRs 77 Y0_4, cloneSem 96 77 Y0_4⟩
theorem ok77 : FnOK Tryz.prog 77 F77 := clone_ok E0_ok mix Tryz.func77 rfl (by kernel_rfl) (by kernel_rfl) (fun k => by kernel_rfl) (fun k xs => by kernel_rfl) (fun k xs => by kernel_rfl)
def S78 (k : Nat) (a : List (PN Int 5)) : Option ((Y0_37 × Unit) × Unit) := cloneSem 40 96 Y0_33 k (a, ())
def F78 : Fn := ⟨clonePs 96 Y0_33, cloneRs 96 Y0_33, cloneSem 40 96 Y0_33⟩
theorem ok78 : FnOK Tryz.prog 78 F78 := clone_ok E0_ok mix Tryz.func78 rfl (by kernel_rfl) (by kernel_rfl) (fun k => by kernel_rfl) (fun k xs => by kernel_rfl) (fun k xs => by kernel_rfl)
def S79 (k : Nat) (a : List Y0_1) : Option (((List Y0_1) × Unit) × Unit) := cloneSem 272 94 Y0_2 k (a, ())
def F79 : Fn := ⟨clonePs 94 Y0_2, cloneRs 94 Y0_2, cloneSem 272 94 Y0_2⟩
theorem ok79 : FnOK Tryz.prog 79 F79 := clone_ok E0_ok mix Tryz.func79 rfl (by kernel_rfl) (by kernel_rfl) (fun k => by kernel_rfl) (fun k xs => by kernel_rfl) (fun k xs => by kernel_rfl)
def S80 (k : Nat) (a : List Y0_8) : Option Y0_36 := cloneSem 32 87 Y0_9 k (a, ())
def F80 : Fn := ⟨clonePs 87 Y0_9, cloneRs 87 Y0_9, cloneSem 32 87 Y0_9⟩
theorem ok80 : FnOK Tryz.prog 80 F80 := clone_ok E0_ok mix Tryz.func80 rfl (by kernel_rfl) (by kernel_rfl) (fun k => by kernel_rfl) (fun k xs => by kernel_rfl) (fun k xs => by kernel_rfl)
def S138 (k : Nat) (a : List (Int × Int × Int)) : Option (((List (Int × Int × Int)) × Unit) × Unit) := cloneSem 24 233 (.pair (.int .i64) Y0_16) k (a, ())
def F138 : Fn := ⟨clonePs 233 (.pair (.int .i64) Y0_16), cloneRs 233 (.pair (.int .i64) Y0_16), cloneSem 24 233 (.pair (.int .i64) Y0_16)⟩
theorem ok138 : FnOK Tryz.prog 138 F138 := clone_ok E0_ok mix Tryz.func138 rfl (by kernel_rfl) (by kernel_rfl) (fun k => by kernel_rfl) (fun k xs => by kernel_rfl) (fun k xs => by kernel_rfl)
def S140 (k : Nat) (a : List Int) : Option Y0_15 := cloneSem 8 3 (.int .i64) k (a, ())
def F140 : Fn := ⟨clonePs 3 (.int .i64), cloneRs 3 (.int .i64), cloneSem 8 3 (.int .i64)⟩
theorem ok140 : FnOK Tryz.prog 140 F140 := clone_ok E0_ok mix Tryz.func140 rfl (by kernel_rfl) (by kernel_rfl) (fun k => by kernel_rfl) (fun k xs => by kernel_rfl) (fun k xs => by kernel_rfl)
def S141 (k : Nat) (a b : Int) : Option Y0_14 :=
 some ((a == b, ()), ())
def F141 : Fn := ⟨[.val ⟨false, (.int .i64), false⟩, .pv (.ref (.int .i64))], [.val ⟨false, .bool, true⟩], fun k x => S141 k x.1 x.2.1⟩
theorem ok141 : FnOK Tryz.prog 141 F141 := okF [] [] (fun k => .nil) trivial Tryz.func141 rfl
abbrev c186_L2 : Cut := ⟨[0, 1, 7, 8], [.cell Y0_23, .clo 141 [.ref (.int .i64)], cI, cI], [], 19, []⟩
def l186_2 (k : Nat) (g2 : (List Int) → Int → Int → Int → Option Y0_13) (a : List Int) (b c e : Int) : Option Y0_13 :=
 (bif decide (e < c) then
  ix a e <|
  (S141 k (rd a e 0) b).bind fun q0 =>
  (bif q0.1.1 then
   some ((e, ()), ())
  else
   g2 a b c (IntKind.i64.wrap (e + 1)))
 else
  some (((-1), ()), ()))
def b186_2 (k : Nat) (g : ((Unit) × (List Int) × Y0_61 × Int × Int × Unit) → Option Y0_13) (d : (Unit) × (List Int) × Y0_61 × Int × Int × Unit) : Option Y0_13 := l186_2 k (fun a b c e => g ((), a, (b, ()), c, e, ())) d.2.1 d.2.2.1.1 d.2.2.2.1 d.2.2.2.2.1
def L186_2 (k a : Nat) (b : List Int) (c e f : Int) : Option Y0_13 := iter (R := Y0_61 × Unit) c186_L2 (b186_2 k) a ((), b, (c, ()), e, f, ())
theorem L186_2_s (k a b c e f) : L186_2 k (a + 1) b c e f = l186_2 k (L186_2 k a) b c e f := iter_succ _ _ _ _
def S186 (k : Nat) (a : List Int) (b : Int) : Option Y0_13 :=
 L186_2 k k a b (a.length : Int) 0
def F186 : Fn := ⟨[.val ⟨false, Y0_23, false⟩, .pv (.clo 141 [.ref (.int .i64)])], [.val ⟨false, (.int .i64), true⟩], fun k x => S186 k x.1 x.2.1.1⟩
theorem ok186 : FnOK Tryz.prog 186 F186 := okF [(141, F141)] [] (fun k => (.loop 2 c186_L2 (b186_2 k) (fun g => .nil) .nil)) ⟨ok141, trivial⟩ Tryz.func186 rfl
abbrev c139_L5 : Cut := ⟨[0, 1, 5, 6], [.pin true 0, .clo 141 [.ref (.int .i64)], cI, cI], [.mrow 3 (.int .i64)], 42, []⟩
def l139_5 (k : Nat) (g5 : (List Int) → Int → Int → Int → Option Y0_15) (a : List Int) (b c e : Int) : Option Y0_15 :=
 (bif decide (e < (a.length : Int)) then
  ix a e <|
  (S141 k (rd a e 0) b).bind fun q1 =>
  (bif !q1.1.1 then
   ix a c <|
   g5 (upd a c (rd a e 0)) b (IntKind.i64.wrap (c + 1)) (IntKind.i64.wrap (e + 1))
  else
   g5 a b c (IntKind.i64.wrap (e + 1)))
 else
  sx a c (a.length : Int) <|
  sx (clr a c (a.length : Int) 0) 0 c <|
  some (((clr a c (a.length : Int) 0).take c.toNat, ()), ()))
def b139_5 (k : Nat) (g : (Y0_70 × Unit × Y0_61 × Int × Int × Unit) → Option Y0_15) (d : Y0_70 × Unit × Y0_61 × Int × Int × Unit) : Option Y0_15 := l139_5 k (fun a b c e => g ((a, ()), (), (b, ()), c, e, ())) d.1.1 d.2.2.1.1 d.2.2.2.1 d.2.2.2.2.1
def L139_5 (k a : Nat) (b : List Int) (c e f : Int) : Option Y0_15 := iter (R := Y0_70 × Unit) c139_L5 (b139_5 k) a ((b, ()), (), (c, ()), e, f, ())
theorem L139_5_s (k a b c e f) : L139_5 k (a + 1) b c e f = l139_5 k (L139_5 k a) b c e f := iter_succ _ _ _ _
def S139 (k : Nat) (a : List Int) (b : Int) : Option Y0_15 :=
 (S186 k a b).bind fun q0 =>
 (bif q0.1.1 == (-1) then
  some ((a, ()), ())
 else
  L139_5 k k a b q0.1.1 (IntKind.i64.wrap (q0.1.1 + 1)))
def F139 : Fn := ⟨[.give 3 (.int .i64), .pv (.clo 141 [.ref (.int .i64)])], [.val ⟨false, Y0_23, true⟩], fun k x => S139 k x.1 x.2.1.1⟩
theorem ok139 : FnOK Tryz.prog 139 F139 := okF [(141, F141), (186, F186)] [(41, 1)] (fun k => (.loop 5 c139_L5 (b139_5 k) (fun g => .nil) .nil)) ⟨ok141, ok186, trivial⟩ Tryz.func139 rfl
def S81 (k : Nat) (a : Y0_34) (b : Int) : Option ((Y0_1 × Unit) × Unit) :=
 (S138 k a.2.2.2.2.1.2.2.1).bind fun q0 =>
 (S138 k a.2.2.2.2.2.1.2.2.1).bind fun q1 =>
 (S140 k a.2.2.2.2.2.2.1).bind fun q2 =>
 (S139 k q2.1.1 b).bind fun q3 =>
 some (((a.1, a.2.1, a.2.2.1, a.2.2.2.1, (a.2.2.2.2.1.1, a.2.2.2.2.1.2.1, q0.1.1, a.2.2.2.2.1.2.2.2), (a.2.2.2.2.2.1.1, a.2.2.2.2.2.1.2.1, q1.1.1, a.2.2.2.2.2.1.2.2.2), q3.1.1, a.2.2.2.2.2.2.2), ()), ())
def F81 : Fn := ⟨[.val ⟨true, Y0_2, false⟩, .val ⟨false, (.int .i64), false⟩], [.val ⟨true, Y0_2, true⟩], fun k x => S81 k x.1 x.2.1⟩
theorem ok81 : FnOK Tryz.prog 81 F81 := okF [(138, F138), (139, F139), (140, F140)] [] (fun k => .nil) ⟨ok138, ok139, ok140, trivial⟩ Tryz.func81 rfl
def S187 (k : Nat) (a : List Bool) : Option (((List Bool) × Unit) × Unit) := cloneSem 1 4 .bool k (a, ())
def F187 : Fn := ⟨clonePs 4 .bool, cloneRs 4 .bool, cloneSem 1 4 .bool⟩
theorem ok187 : FnOK Tryz.prog 187 F187 := clone_ok E0_ok mix Tryz.func187 rfl (by kernel_rfl) (by kernel_rfl) (fun k => by kernel_rfl) (fun k xs => by kernel_rfl) (fun k xs => by kernel_rfl)
def S188 (k : Nat) (a : List Int) : Option Y0_15 := cloneSem 8 2 (.int .i64) k (a, ())
def F188 : Fn := ⟨clonePs 2 (.int .i64), cloneRs 2 (.int .i64), cloneSem 8 2 (.int .i64)⟩
theorem ok188 : FnOK Tryz.prog 188 F188 := clone_ok E0_ok mix Tryz.func188 rfl (by kernel_rfl) (by kernel_rfl) (fun k => by kernel_rfl) (fun k xs => by kernel_rfl) (fun k xs => by kernel_rfl)
def S189 (k : Nat) (a : Y0_25) : Option Y0_44 := cloneSem 16 297 Y0_42 k (a, ())
def F189 : Fn := ⟨clonePs 297 Y0_42, cloneRs 297 Y0_42, cloneSem 16 297 Y0_42⟩
theorem ok189 : FnOK Tryz.prog 189 F189 := clone_ok E0_ok mix Tryz.func189 rfl (by kernel_rfl) (by kernel_rfl) (fun k => by kernel_rfl) (fun k xs => by kernel_rfl) (fun k xs => by kernel_rfl)
def S145 (k : Nat) (x : Y0_31) : Option ((Y0_3 × Unit) × Unit) :=
 (S188 k x.2.2.2.1.1).bind fun q0 =>
 (S140 k x.2.2.2.1.2).bind fun q1 =>
 (S189 k x.2.2.2.2.1.2).bind fun q2 =>
 some (((x.1, x.2.1, x.2.2.1, (q0.1.1, q1.1.1), (x.2.2.2.2.1.1, q2.1.1), x.2.2.2.2.2), ()), ())
def F145 : Fn := ⟨[.val ⟨true, Y0_5, false⟩], [.val ⟨true, Y0_5, true⟩], fun k x => S145 k x.1⟩
theorem ok145 : FnOK Tryz.prog 145 F145 := okF [(140, F140), (188, F188), (189, F189)] [] (fun k => .nil) ⟨ok140, ok188, ok189, trivial⟩ Tryz.func145 rfl
abbrev c142_L3 : Cut := ⟨[2, 3, 17, 18, 19], [.box 33 [.nil, .nil, .nil], .box 33 [.own 3 (.int .i64), .own 4 .bool, .own 124 Y0_5], .cell (.sl 124 Y0_5), cI, cI], [], 32, []⟩
def l142_3 (k : Nat) (g3 : (List Int) → (List Bool) → (List Y0_3) → (List Y0_3) → Int → Int → Option Y0_65) (a : List Int) (b : List Bool) (c e : List Y0_3) (f h : Int) : Option Y0_65 :=
 (bif decide (h < f) then
  ix e h <|
  (S145 k (rd e h (0, (0, 0), (0, 0), ([], []), (0, []), 0))).bind fun q2 =>
  ap c ([q2.1.1] : List Y0_3) 128 fun r3 =>
  g3 a b r3 e f (IntKind.i64.wrap (h + 1))
 else
  some ((((a, b), c), ()), ()))
def b142_3 (k : Nat) (g : ((Unit) × (Unit × Unit × Unit × Unit) × Y0_50 × (List Y0_3) × Int × Int × Unit) → Option Y0_65) (d : (Unit) × (Unit × Unit × Unit × Unit) × Y0_50 × (List Y0_3) × Int × Int × Unit) : Option Y0_65 := l142_3 k (fun a b c e f h => g ((), ((), (), (), ()), (a, b, c, ()), e, f, h, ())) d.2.2.1.1 d.2.2.1.2.1 d.2.2.1.2.2.1 d.2.2.2.1 d.2.2.2.2.1 d.2.2.2.2.2.1
def L142_3 (k a : Nat) (b : List Int) (c : List Bool) (e f : List Y0_3) (h i : Int) : Option Y0_65 := iter (R := (Y0_18 × Unit) × Unit) c142_L3 (b142_3 k) a ((), ((), (), (), ()), (b, c, e, ()), f, h, i, ())
theorem L142_3_s (k a b c e f h i) : L142_3 k (a + 1) b c e f h i = l142_3 k (L142_3 k a) b c e f h i := iter_succ _ _ _ _
def S142 (k : Nat) (a : Y0_58 × List Y0_3) : Option Y0_65 :=
 (S140 k a.1.1).bind fun q0 =>
 (S187 k a.1.2).bind fun q1 =>
 L142_3 k k q0.1.1 q1.1.1 ([] : List Y0_3) a.2 (a.2.length : Int) 0
def F142 : Fn := ⟨[.val ⟨true, Y0_56, false⟩], [.val ⟨true, Y0_56, true⟩], fun k x => S142 k x.1⟩
theorem ok142 : FnOK Tryz.prog 142 F142 := okF [(140, F140), (145, F145), (187, F187)] [(15, 2)] (fun k => (.loop 3 c142_L3 (b142_3 k) (fun g => .nil) .nil)) ⟨ok140, ok145, ok187, trivial⟩ Tryz.func142 rfl
def S143 (k : Nat) (a : Y0_58 × List Y0_3) (b : Int) : Option Y0_14 :=
 (bif decide (b ≥ 0) then
  (bif decide (b < (a.2.length : Int)) then
   ix a.2 b <|
   some (((rd a.2 b (0, (0, 0), (0, 0), ([], []), (0, []), 0)).1 != 0, ()), ())
  else
   some ((false, ()), ()))
 else
  some ((false, ()), ()))
def F143 : Fn := ⟨[.val ⟨true, Y0_56, false⟩, .val ⟨false, (.int .i64), false⟩], [.val ⟨false, .bool, true⟩], fun k x => S143 k x.1 x.2.1⟩
theorem ok143 : FnOK Tryz.prog 143 F143 := okF [] [] (fun k => .nil) trivial Tryz.func143 rfl
abbrev c190_L6 : Cut := ⟨[3, 6, 7, 8, 9, 10], [.cell (.int .u32), .cell (.int .u64), cI, .cell Y0_53, cI, cI], [], 34, []⟩
def l190_6 (k : Nat) (g3 : Y0_55) (g6 : Int → Int → Int → (List Int) → Int → Int → Option Y0_13) (a b c : Int) (e : List Int) (f h : Int) : Option Y0_13 :=
 (bif decide (c < 8) then
  g6 (ixor .u32 (ior .u32 (ishl .u32 a 5) (ishr .u32 a 27)) (IntKind.u32.wrap (IntKind.u8.wrap b))) (ishr .u64 b 8) (IntKind.i64.wrap (c + 1)) e f h
 else
  g3 a e f (IntKind.i64.wrap (h + 1)))
def b190_6 (k : Nat) (g3 : Y0_55) (g : ((Unit) × Int × Int × Int × (List Int) × Int × Int × Unit) → Option Y0_13) (d : (Unit) × Int × Int × Int × (List Int) × Int × Int × Unit) : Option Y0_13 := l190_6 k g3 (fun a b c e f h => g ((), a, b, c, e, f, h, ())) d.2.1 d.2.2.1 d.2.2.2.1 d.2.2.2.2.1 d.2.2.2.2.2.1 d.2.2.2.2.2.2.1
def L190_6 (k : Nat) (g3 : Y0_55) (a : Nat) (b c e : Int) (f : List Int) (h i : Int) : Option Y0_13 := iter (R := Y0_61 × Unit) c190_L6 (b190_6 k g3) a ((), b, c, e, f, h, i, ())
theorem L190_6_s (k g3 a b c e f h i) : L190_6 k g3 (a + 1) b c e f h i = l190_6 k g3 (L190_6 k g3 a) b c e f h i := iter_succ _ _ _ _
abbrev c190_L3 : Cut := ⟨[3, 8, 9, 10], [.cell (.int .u32), .cell Y0_53, cI, cI], [], 34, []⟩
def l190_3 (k : Nat) (g3 : Y0_55) (a : Int) (b : List Int) (c e : Int) : Option Y0_13 :=
 (bif decide (e < c) then
  ix b e <|
  L190_6 k g3 k a (IntKind.u64.wrap (rd b e 0)) 0 b c e
 else
  some ((a, ()), ()))
def b190_3 (k : Nat) (g : ((Unit) × Int × (List Int) × Int × Int × Unit) → Option Y0_13) (d : (Unit) × Int × (List Int) × Int × Int × Unit) : Option Y0_13 := l190_3 k (fun a b c e => g ((), a, b, c, e, ())) d.2.1 d.2.2.1 d.2.2.2.1 d.2.2.2.2.1
def L190_3 (k a : Nat) (b : Int) (c : List Int) (e f : Int) : Option Y0_13 := iter (R := Y0_61 × Unit) c190_L3 (b190_3 k) a ((), b, c, e, f, ())
theorem L190_3_s (k a b c e f) : L190_3 k (a + 1) b c e f = l190_3 k (L190_3 k a) b c e f := iter_succ _ _ _ _
def S190 (k : Nat) (a : List Int) : Option Y0_13 :=
 L190_3 k k 2166136261 a (a.length : Int) 0
def F190 : Fn := ⟨[.val ⟨false, Y0_53, false⟩], [.val ⟨false, (.int .u32), true⟩], fun k x => S190 k x.1⟩
theorem ok190 : FnOK Tryz.prog 190 F190 := okF [] [] (fun k => (.loop 3 c190_L3 (b190_3 k) (fun g => (fun (g3 : Y0_55) => (.loop 6 c190_L6 (b190_6 k g3) (fun g => .nil) .nil)) (fun h t8 t9 t10 => g ((), h, t8, t9, t10, ()))) .nil)) trivial Tryz.func190 rfl
abbrev c146_L11 : Cut := ⟨[3, 61, 62, 63], [.own 2 (.int .i64), .cell (.sl 297 Y0_42), cI, cI], [], 78, []⟩
def l146_11 (k : Nat) (g11 : (List Int) → Y0_21 → Int → Int → Option Y0_13) (a : List Int) (b : Y0_25) (c e : Int) : Option Y0_13 :=
 (bif decide (e < c) then
  ix b e <|
  ap a ([(rd b e (0, 0)).1, IntKind.i64.wrap (rd b e (0, 0)).2] : List Int) 8 fun r4 =>
  g11 r4 b c (IntKind.i64.wrap (e + 1))
 else
  (S190 k a).bind fun q5 =>
  some ((q5.1.1, ()), ()))
def b146_11 (k : Nat) (g : ((Unit) × (List Int) × Y0_21 × Int × Int × Unit) → Option Y0_13) (d : (Unit) × (List Int) × Y0_21 × Int × Int × Unit) : Option Y0_13 := l146_11 k (fun a b c e => g ((), a, b, c, e, ())) d.2.1 d.2.2.1 d.2.2.2.1 d.2.2.2.2.1
def L146_11 (k a : Nat) (b : List Int) (c : Y0_25) (e f : Int) : Option Y0_13 := iter (R := Y0_61 × Unit) c146_L11 (b146_11 k) a ((), b, c, e, f, ())
theorem L146_11_s (k a b c e f) : L146_11 k (a + 1) b c e f = l146_11 k (L146_11 k a) b c e f := iter_succ _ _ _ _
abbrev c146_L5 : Cut := ⟨[1, 3, 41, 42, 43], [.box 124 [cI, cI, cI, cI, cI, .cell Y0_53, .cell Y0_23, .cell (.int .u32), .cell (.sl 297 Y0_42), .cell (.int .u32)], .own 2 (.int .i64), .cell Y0_23, cI, cI], [], 78, []⟩
def l146_5 (k : Nat) (g5 : Int → Int → Int → Int → Int → (List Int) → (List Int) → Int → Y0_21 → Int → (List Int) → (List Int) → Int → Int → Option Y0_13) (a b c e f : Int) (h i : List Int) (l : Int) (m : Y0_25) (n : Int) (o p : List Int) (s t : Int) : Option Y0_13 :=
 (bif decide (t < s) then
  ix p t <|
  ap o ([rd p t 0] : List Int) 8 fun r2 =>
  g5 a b c e f h i l m n r2 p s (IntKind.i64.wrap (t + 1))
 else
  ap o ([IntKind.i64.wrap l] : List Int) 8 fun r3 =>
  L146_11 k k r3 m (m.length : Int) 0)
def b146_5 (k : Nat) (g : ((Unit) × (Int × Int × Int × Int × Int × (List Int) × (List Int) × Int × Y0_21 × Int × Unit) × (List Int) × (List Int) × Int × Int × Unit) → Option Y0_13) (d : (Unit) × (Int × Int × Int × Int × Int × (List Int) × (List Int) × Int × Y0_21 × Int × Unit) × (List Int) × (List Int) × Int × Int × Unit) : Option Y0_13 := l146_5 k (fun a b c e f h i l m n o p s t => g ((), (a, b, c, e, f, h, i, l, m, n, ()), o, p, s, t, ())) d.2.1.1 d.2.1.2.1 d.2.1.2.2.1 d.2.1.2.2.2.1 d.2.1.2.2.2.2.1 d.2.1.2.2.2.2.2.1 d.2.1.2.2.2.2.2.2.1 d.2.1.2.2.2.2.2.2.2.1 d.2.1.2.2.2.2.2.2.2.2.1 d.2.1.2.2.2.2.2.2.2.2.2.1 d.2.2.1 d.2.2.2.1 d.2.2.2.2.1 d.2.2.2.2.2.1
def L146_5 (k a : Nat) (b c e f h : Int) (i l : List Int) (m : Int) (n : Y0_25) (o : Int) (p s : List Int) (t u : Int) : Option Y0_13 := iter (R := Y0_61 × Unit) c146_L5 (b146_5 k) a ((), (b, c, e, f, h, i, l, m, n, o, ()), p, s, t, u, ())
theorem L146_5_s (k a b c e f h i l m n o p s t u) : L146_5 k (a + 1) b c e f h i l m n o p s t u = l146_5 k (L146_5 k a) b c e f h i l m n o p s t u := iter_succ _ _ _ _
def S146 (k : Nat) (x : Y0_31) : Option Y0_13 :=
 ap ([x.1, x.2.1.1, x.2.1.2, x.2.2.1.1, x.2.2.1.2, (x.2.2.2.1.1.length : Int)] : List Int) x.2.2.2.1.1 8 fun r0 =>
 ap r0 ([(x.2.2.2.1.2.length : Int)] : List Int) 8 fun r1 =>
 L146_5 k k x.1 x.2.1.1 x.2.1.2 x.2.2.1.1 x.2.2.1.2 x.2.2.2.1.1 x.2.2.2.1.2 x.2.2.2.2.1.1 x.2.2.2.2.1.2 x.2.2.2.2.2 r1 x.2.2.2.1.2 (x.2.2.2.1.2.length : Int) 0
def F146 : Fn := ⟨[.val ⟨true, Y0_5, false⟩], [.val ⟨false, (.int .u32), true⟩], fun k x => S146 k x.1⟩
theorem ok146 : FnOK Tryz.prog 146 F146 := okF [(190, F190)] [] (fun k => (.loop 11 c146_L11 (b146_11 k) (fun g => .nil) (.loop 5 c146_L5 (b146_5 k) (fun g => .nil) .nil))) ⟨ok190, trivial⟩ Tryz.func146 rfl
def S144 (k : Nat) (x : Y0_31) : Option ((Y0_3 × Unit) × Unit) :=
 (S146 k x).bind fun q0 =>
 some (((x.1, x.2.1, x.2.2.1, x.2.2.2.1, x.2.2.2.2.1, q0.1.1), ()), ())
def F144 : Fn := ⟨[.val ⟨true, Y0_5, false⟩], [.val ⟨true, Y0_5, false⟩], fun k x => S144 k x.1⟩
theorem ok144 : FnOK Tryz.prog 144 F144 := okF [(146, F146)] [] (fun k => .nil) ⟨ok146, trivial⟩ Tryz.func144 rfl
def S82 (k : Nat) (a : Y0_58 × List Y0_3) (b : Int) (x : Y0_31) : Option Y0_65 :=
 (S142 k a).bind fun q0 =>
 (S143 k a b).bind fun q1 =>
 (bif !q1.1.1 then
  some ((q0.1.1, ()), ())
 else
  ix a.2 b <|
  (S145 k ((rd a.2 b (0, (0, 0), (0, 0), ([], []), (0, []), 0)).1, (rd a.2 b (0, (0, 0), (0, 0), ([], []), (0, []), 0)).2.1, x.2.2)).bind fun q2 =>
  (S144 k q2.1.1).bind fun q3 =>
  (S146 k (rd a.2 b (0, (0, 0), (0, 0), ([], []), (0, []), 0))).bind fun q4 =>
  (bif (rd a.2 b (0, (0, 0), (0, 0), ([], []), (0, []), 0)).2.2.2.2.2 != q4.1.1 then
   ix q0.1.1.2 b <|
   some (((q0.1.1.1, upd q0.1.1.2 b (q3.1.1.1, q3.1.1.2.1, q3.1.1.2.2.1, q3.1.1.2.2.2.1, q3.1.1.2.2.2.2.1, inot .u32 q3.1.1.2.2.2.2.2)), ()), ())
  else
   ix q0.1.1.2 b <|
   some (((q0.1.1.1, upd q0.1.1.2 b q3.1.1), ()), ())))
def F82 : Fn := ⟨[.val ⟨true, Y0_56, false⟩, .val ⟨false, (.int .i64), false⟩, .val ⟨true, Y0_5, false⟩], [.val ⟨true, Y0_56, true⟩], fun k x => S82 k x.1 x.2.1 x.2.2.1⟩
theorem ok82 : FnOK Tryz.prog 82 F82 := okF [(142, F142), (143, F143), (144, F144), (145, F145), (146, F146)] [] (fun k => .nil) ⟨ok142, ok143, ok144, ok145, ok146, trivial⟩ Tryz.func82 rfl
def S147 (k : Nat) (a : (List Int) × List Bool) : Option ((Y0_58 × Unit) × Unit) :=
 (S140 k a.1).bind fun q0 =>
 (S187 k a.2).bind fun q1 =>
 some (((q0.1.1, q1.1.1), ()), ())
def F147 : Fn := ⟨[.val ⟨true, Y0_32, false⟩], [.val ⟨true, Y0_32, true⟩], fun k x => S147 k x.1⟩
theorem ok147 : FnOK Tryz.prog 147 F147 := okF [(140, F140), (187, F187)] [] (fun k => .nil) ⟨ok140, ok187, trivial⟩ Tryz.func147 rfl
def S83 (k : Nat) (a : (List Int) × List Bool) (b : Int) : Option ((Y0_58 × Unit) × Unit) :=
 (S147 k a).bind fun q0 =>
 (bif decide (b ≥ 0) then
  (bif decide (b < (q0.1.1.1.length : Int)) then
   ix q0.1.1.1 b <|
   some (((upd q0.1.1.1 b 0, q0.1.1.2), ()), ())
  else
   some ((q0.1.1, ()), ()))
 else
  some ((q0.1.1, ()), ()))
def F83 : Fn := ⟨[.val ⟨true, Y0_32, false⟩, .val ⟨false, (.int .i64), false⟩], [.val ⟨true, Y0_32, true⟩], fun k x => S83 k x.1 x.2.1⟩
theorem ok83 : FnOK Tryz.prog 83 F83 := okF [(147, F147)] [] (fun k => .nil) ⟨ok147, trivial⟩ Tryz.func83 rfl
abbrev c34_L8 : Cut := ⟨[1, 2, 54, 55], [.box 37 [cI, cI, .own 77 Y0_4, .own 96 Y0_33, .cell .bool, .cell .bool, .cell .bool, .own 94 Y0_2, .cell Y0_23, .cell (.sl 4 .bool), .cell (.sl 124 Y0_5), .cell Y0_23, .cell (.sl 4 .bool)], .box 37 [cI, cI, .nil, .nil, .cell .bool, .cell .bool, .cell .bool, .nil, .nil, .nil, .nil, .nil, .nil], cI, cI], [], 77, [(53, 3)]⟩
def l34_8 (k : Nat) (g8 : Y0_45) (a b : Int) (c : List Y0_0) (e : List (PN Int 5)) (f h i : Bool) (l : List Y0_1) (m : List Int) (n : List Bool) (o : List Y0_3) (p : List Int) (s : List Bool) (t u : Int) (v w y : Bool) (z A : Int) : Option Y0_64 :=
 (bif decide (A < z) then
  ix l A <|
  (S81 k (rd l A (0, 0, 0, 0, (0, prep (α := Int) 8 0, [], false), (0, prep (α := Int) 8 0, [], false), [], false)) (-1)).bind fun q7 =>
  ix l A <|
  g8 a b c e f h i (upd l A q7.1.1) m n o p s t u v w y z (IntKind.i64.wrap (A + 1))
 else
  (S82 k ((m, n), o) (-1) (0, (0, 0), (0, 0), ([], []), (0, []), 0)).bind fun q8 =>
  (S83 k (p, s) (-1)).bind fun q9 =>
  some (((a, b, c, e, f, h, i, l, q8.1.1, q9.1.1), ()), ()))
def b34_8 (k : Nat) (g : ((Unit) × Y0_10 × Y0_22 × Int × Int × Unit) → Option Y0_64) (d : (Unit) × Y0_10 × Y0_22 × Int × Int × Unit) : Option Y0_64 := l34_8 k (fun a b c e f h i l m n o p s t u v w y z A => g ((), (a, b, c, e, f, h, i, l, m, n, o, p, s, ()), (t, u, (), (), v, w, y, (), (), (), (), (), (), ()), z, A, ())) d.2.1.1 d.2.1.2.1 d.2.1.2.2.1 d.2.1.2.2.2.1 d.2.1.2.2.2.2.1 d.2.1.2.2.2.2.2.1 d.2.1.2.2.2.2.2.2.1 d.2.1.2.2.2.2.2.2.2.1 d.2.1.2.2.2.2.2.2.2.2.1 d.2.1.2.2.2.2.2.2.2.2.2.1 d.2.1.2.2.2.2.2.2.2.2.2.2.1 d.2.1.2.2.2.2.2.2.2.2.2.2.2.1 d.2.1.2.2.2.2.2.2.2.2.2.2.2.2.1 d.2.2.1.1 d.2.2.1.2.1 d.2.2.1.2.2.2.2.1 d.2.2.1.2.2.2.2.2.1 d.2.2.1.2.2.2.2.2.2.1 d.2.2.2.1 d.2.2.2.2.1
def L34_8 (k a : Nat) (b c : Int) (e : List Y0_0) (f : List (PN Int 5)) (h i l : Bool) (m : List Y0_1) (n : List Int) (o : List Bool) (p : List Y0_3) (s : List Int) (t : List Bool) (u v : Int) (w y z : Bool) (A B : Int) : Option Y0_64 := iter (R := (Y0_7 × Unit) × Unit) c34_L8 (b34_8 k) a ((), (b, c, e, f, h, i, l, m, n, o, p, s, t, ()), (u, v, (), (), w, y, z, (), (), (), (), (), (), ()), A, B, ())
theorem L34_8_s (k a b c e f h i l m n o p s t u v w y z A B) : L34_8 k (a + 1) b c e f h i l m n o p s t u v w y z A B = l34_8 k (L34_8 k a) b c e f h i l m n o p s t u v w y z A B := iter_succ _ _ _ _
abbrev c34_L3 : Cut := ⟨[1, 2, 21, 22], [.box 37 [cI, cI, .own 77 Y0_4, .own 96 Y0_33, .cell .bool, .cell .bool, .cell .bool, .own 94 Y0_2, .cell Y0_23, .cell (.sl 4 .bool), .cell (.sl 124 Y0_5), .cell Y0_23, .cell (.sl 4 .bool)], .box 37 [cI, cI, .nil, .nil, .cell .bool, .cell .bool, .cell .bool, .nil, .nil, .nil, .nil, .nil, .nil], cI, cI], [], 77, [(20, 1)]⟩
def l34_3 (k : Nat) (g3 : Y0_45) (a b : Int) (c : List Y0_0) (e : List (PN Int 5)) (f h i : Bool) (l : List Y0_1) (m : List Int) (n : List Bool) (o : List Y0_3) (p : List Int) (s : List Bool) (t u : Int) (v w y : Bool) (z A : Int) : Option Y0_64 :=
 (bif decide (A < z) then
  ix c A <|
  (S80 k (rd c A (0, 0, 0, [], [], [])).2.2.2.1).bind fun q3 =>
  (S80 k (rd c A (0, 0, 0, [], [], [])).2.2.2.2.1).bind fun q4 =>
  (S80 k (rd c A (0, 0, 0, [], [], [])).2.2.2.2.2).bind fun q5 =>
  ix c A <|
  ix (upd c A ((rd c A (0, 0, 0, [], [], [])).1, (rd c A (0, 0, 0, [], [], [])).2.1, (rd c A (0, 0, 0, [], [], [])).2.2.1, q3.1.1, (rd c A (0, 0, 0, [], [], [])).2.2.2.2)) A <|
  let r6 : List Y0_0 := upd (upd c A ((rd c A (0, 0, 0, [], [], [])).1, (rd c A (0, 0, 0, [], [], [])).2.1, (rd c A (0, 0, 0, [], [], [])).2.2.1, q3.1.1, (rd c A (0, 0, 0, [], [], [])).2.2.2.2)) A ((rd (upd c A ((rd c A (0, 0, 0, [], [], [])).1, (rd c A (0, 0, 0, [], [], [])).2.1, (rd c A (0, 0, 0, [], [], [])).2.2.1, q3.1.1, (rd c A (0, 0, 0, [], [], [])).2.2.2.2)) A (0, 0, 0, [], [], [])).1, (rd (upd c A ((rd c A (0, 0, 0, [], [], [])).1, (rd c A (0, 0, 0, [], [], [])).2.1, (rd c A (0, 0, 0, [], [], [])).2.2.1, q3.1.1, (rd c A (0, 0, 0, [], [], [])).2.2.2.2)) A (0, 0, 0, [], [], [])).2.1, (rd (upd c A ((rd c A (0, 0, 0, [], [], [])).1, (rd c A (0, 0, 0, [], [], [])).2.1, (rd c A (0, 0, 0, [], [], [])).2.2.1, q3.1.1, (rd c A (0, 0, 0, [], [], [])).2.2.2.2)) A (0, 0, 0, [], [], [])).2.2.1, (rd (upd c A ((rd c A (0, 0, 0, [], [], [])).1, (rd c A (0, 0, 0, [], [], [])).2.1, (rd c A (0, 0, 0, [], [], [])).2.2.1, q3.1.1, (rd c A (0, 0, 0, [], [], [])).2.2.2.2)) A (0, 0, 0, [], [], [])).2.2.2.1, q4.1.1, (rd (upd c A ((rd c A (0, 0, 0, [], [], [])).1, (rd c A (0, 0, 0, [], [], [])).2.1, (rd c A (0, 0, 0, [], [], [])).2.2.1, q3.1.1, (rd c A (0, 0, 0, [], [], [])).2.2.2.2)) A (0, 0, 0, [], [], [])).2.2.2.2.2)
  ix r6 A <|
  g3 a b (upd r6 A ((rd r6 A (0, 0, 0, [], [], [])).1, (rd r6 A (0, 0, 0, [], [], [])).2.1, (rd r6 A (0, 0, 0, [], [], [])).2.2.1, (rd r6 A (0, 0, 0, [], [], [])).2.2.2.1, (rd r6 A (0, 0, 0, [], [], [])).2.2.2.2.1, q5.1.1)) e f h i l m n o p s t u v w y z (IntKind.i64.wrap (A + 1))
 else
  L34_8 k k a b c e f h i l m n o p s t u v w y (l.length : Int) 0)
def b34_3 (k : Nat) (g : ((Unit) × Y0_10 × Y0_22 × Int × Int × Unit) → Option Y0_64) (d : (Unit) × Y0_10 × Y0_22 × Int × Int × Unit) : Option Y0_64 := l34_3 k (fun a b c e f h i l m n o p s t u v w y z A => g ((), (a, b, c, e, f, h, i, l, m, n, o, p, s, ()), (t, u, (), (), v, w, y, (), (), (), (), (), (), ()), z, A, ())) d.2.1.1 d.2.1.2.1 d.2.1.2.2.1 d.2.1.2.2.2.1 d.2.1.2.2.2.2.1 d.2.1.2.2.2.2.2.1 d.2.1.2.2.2.2.2.2.1 d.2.1.2.2.2.2.2.2.2.1 d.2.1.2.2.2.2.2.2.2.2.1 d.2.1.2.2.2.2.2.2.2.2.2.1 d.2.1.2.2.2.2.2.2.2.2.2.2.1 d.2.1.2.2.2.2.2.2.2.2.2.2.2.1 d.2.1.2.2.2.2.2.2.2.2.2.2.2.2.1 d.2.2.1.1 d.2.2.1.2.1 d.2.2.1.2.2.2.2.1 d.2.2.1.2.2.2.2.2.1 d.2.2.1.2.2.2.2.2.2.1 d.2.2.2.1 d.2.2.2.2.1
def L34_3 (k a : Nat) (b c : Int) (e : List Y0_0) (f : List (PN Int 5)) (h i l : Bool) (m : List Y0_1) (n : List Int) (o : List Bool) (p : List Y0_3) (s : List Int) (t : List Bool) (u v : Int) (w y z : Bool) (A B : Int) : Option Y0_64 := iter (R := (Y0_7 × Unit) × Unit) c34_L3 (b34_3 k) a ((), (b, c, e, f, h, i, l, m, n, o, p, s, t, ()), (u, v, (), (), w, y, z, (), (), (), (), (), (), ()), A, B, ())
theorem L34_3_s (k a b c e f h i l m n o p s t u v w y z A B) : L34_3 k (a + 1) b c e f h i l m n o p s t u v w y z A B = l34_3 k (L34_3 k a) b c e f h i l m n o p s t u v w y z A B := iter_succ _ _ _ _
def S34 (k : Nat) (a : Y0_26) : Option Y0_64 :=
 (S77 k a.2.2.1).bind fun q0 =>
 (S78 k a.2.2.2.1).bind fun q1 =>
 (S79 k a.2.2.2.2.2.2.2.1).bind fun q2 =>
 L34_3 k k a.1 a.2.1 q0.1.1 q1.1.1 a.2.2.2.2.1 a.2.2.2.2.2.1 a.2.2.2.2.2.2.1 q2.1.1 a.2.2.2.2.2.2.2.2.1.1.1 a.2.2.2.2.2.2.2.2.1.1.2 a.2.2.2.2.2.2.2.2.1.2 a.2.2.2.2.2.2.2.2.2.1 a.2.2.2.2.2.2.2.2.2.2 0 0 false false false (q0.1.1.length : Int) 0
def F34 : Fn := ⟨[.val ⟨true, Y0_11, false⟩], [.val ⟨true, Y0_11, true⟩], fun k x => S34 k x.1⟩
theorem ok34 : FnOK Tryz.prog 34 F34 := okF [(77, F77), (78, F78), (79, F79), (80, F80), (81, F81), (82, F82), (83, F83)] [] (fun k => (.loop 8 c34_L8 (b34_8 k) (fun g => .nil) (.loop 3 c34_L3 (b34_3 k) (fun g => .nil) .nil))) ⟨ok77, ok78, ok79, ok80, ok81, ok82, ok83, trivial⟩ Tryz.func34 rfl
abbrev c73_L2 : Cut := ⟨[2, 6, 7, 8], [.own 3 (.int .i64), .cell (.sl 124 Y0_5), cI, cI], [], 22, []⟩
def l73_2 (k : Nat) (g2 : (List Int) → (List Y0_3) → Int → Int → Option Y0_15) (a : List Int) (b : List Y0_3) (c e : Int) : Option Y0_15 :=
 (bif decide (e < c) then
  ix b e <|
  (bif (rd b e (0, (0, 0), (0, 0), ([], []), (0, []), 0)).1 == 1 then
   ap a ([e] : List Int) 8 fun r0 =>
   g2 r0 b c (IntKind.i64.wrap (e + 1))
  else
   g2 a b c (IntKind.i64.wrap (e + 1)))
 else
  some ((a, ()), ()))
def b73_2 (k : Nat) (g : ((Unit) × (List Int) × (List Y0_3) × Int × Int × Unit) → Option Y0_15) (d : (Unit) × (List Int) × (List Y0_3) × Int × Int × Unit) : Option Y0_15 := l73_2 k (fun a b c e => g ((), a, b, c, e, ())) d.2.1 d.2.2.1 d.2.2.2.1 d.2.2.2.2.1
def L73_2 (k a : Nat) (b : List Int) (c : List Y0_3) (e f : Int) : Option Y0_15 := iter (R := Y0_70 × Unit) c73_L2 (b73_2 k) a ((), b, c, e, f, ())
theorem L73_2_s (k a b c e f) : L73_2 k (a + 1) b c e f = l73_2 k (L73_2 k a) b c e f := iter_succ _ _ _ _
def S73 (k : Nat) (a : Y0_58 × List Y0_3) : Option Y0_15 :=
 L73_2 k k ([] : List Int) a.2 (a.2.length : Int) 0
def F73 : Fn := ⟨[.val ⟨true, Y0_56, false⟩], [.val ⟨false, Y0_23, true⟩], fun k x => S73 k x.1⟩
theorem ok73 : FnOK Tryz.prog 73 F73 := okF [] [(2, 2)] (fun k => (.loop 2 c73_L2 (b73_2 k) (fun g => .nil) .nil)) trivial Tryz.func73 rfl
abbrev c30_L2 : Cut := ⟨[1, 2, 7, 8, 9], [.box 37 [cI, cI, .cell Y0_57, .cell (.sl 96 Y0_33), .cell .bool, .cell .bool, .cell .bool, .cell (.sl 94 Y0_2), .cell Y0_23, .cell (.sl 4 .bool), .cell (.sl 124 Y0_5), .cell Y0_23, .cell (.sl 4 .bool)], .own 114 Y0_16, .own 3 (.int .i64), cI, cI], [], 25, []⟩
def l30_2 (k : Nat) (g2 : Int → Int → (List Y0_0) → Y0_37 → Bool → Bool → Bool → (List Y0_1) → (List Int) → (List Bool) → (List Y0_3) → (List Int) → (List Bool) → Y0_21 → (List Int) → Int → Int → Option Y0_44) (a b : Int) (c : List Y0_0) (e : List (PN Int 5)) (f h i : Bool) (l : List Y0_1) (m : List Int) (n : List Bool) (o : List Y0_3) (p : List Int) (s : List Bool) (t : Y0_25) (u : List Int) (v w : Int) : Option Y0_44 :=
 (bif decide (w < v) then
  ix u w <|
  ix o (rd u w 0) <|
  ap t ([(rd o (rd u w 0) (0, (0, 0), (0, 0), ([], []), (0, []), 0)).2.2.1] : List (Int × Int)) 16 fun r1 =>
  g2 a b c e f h i l m n o p s r1 u v (IntKind.i64.wrap (w + 1))
 else
  some ((t, ()), ()))
def b30_2 (k : Nat) (g : ((Unit) × Y0_10 × Y0_21 × (List Int) × Int × Int × Unit) → Option Y0_44) (d : (Unit) × Y0_10 × Y0_21 × (List Int) × Int × Int × Unit) : Option Y0_44 := l30_2 k (fun a b c e f h i l m n o p s t u v w => g ((), (a, b, c, e, f, h, i, l, m, n, o, p, s, ()), t, u, v, w, ())) d.2.1.1 d.2.1.2.1 d.2.1.2.2.1 d.2.1.2.2.2.1 d.2.1.2.2.2.2.1 d.2.1.2.2.2.2.2.1 d.2.1.2.2.2.2.2.2.1 d.2.1.2.2.2.2.2.2.2.1 d.2.1.2.2.2.2.2.2.2.2.1 d.2.1.2.2.2.2.2.2.2.2.2.1 d.2.1.2.2.2.2.2.2.2.2.2.2.1 d.2.1.2.2.2.2.2.2.2.2.2.2.2.1 d.2.1.2.2.2.2.2.2.2.2.2.2.2.2.1 d.2.2.1 d.2.2.2.1 d.2.2.2.2.1 d.2.2.2.2.2.1
def L30_2 (k a : Nat) (b c : Int) (e : List Y0_0) (f : List (PN Int 5)) (h i l : Bool) (m : List Y0_1) (n : List Int) (o : List Bool) (p : List Y0_3) (s : List Int) (t : List Bool) (u : Y0_25) (v : List Int) (w y : Int) : Option Y0_44 := iter (R := (Y0_21 × Unit) × Unit) c30_L2 (b30_2 k) a ((), (b, c, e, f, h, i, l, m, n, o, p, s, t, ()), u, v, w, y, ())
theorem L30_2_s (k a b c e f h i l m n o p s t u v w y) : L30_2 k (a + 1) b c e f h i l m n o p s t u v w y = l30_2 k (L30_2 k a) b c e f h i l m n o p s t u v w y := iter_succ _ _ _ _
def S30 (k : Nat) (a : Y0_26) : Option Y0_44 :=
 (S73 k a.2.2.2.2.2.2.2.2.1).bind fun q0 =>
 L30_2 k k a.1 a.2.1 a.2.2.1 a.2.2.2.1 a.2.2.2.2.1 a.2.2.2.2.2.1 a.2.2.2.2.2.2.1 a.2.2.2.2.2.2.2.1 a.2.2.2.2.2.2.2.2.1.1.1 a.2.2.2.2.2.2.2.2.1.1.2 a.2.2.2.2.2.2.2.2.1.2 a.2.2.2.2.2.2.2.2.2.1 a.2.2.2.2.2.2.2.2.2.2 ([] : List (Int × Int)) q0.1.1 (q0.1.1.length : Int) 0
def F30 : Fn := ⟨[.val ⟨true, Y0_11, false⟩], [.val ⟨false, Y0_68, true⟩], fun k x => S30 k x.1⟩
theorem ok30 : FnOK Tryz.prog 30 F30 := okF [(73, F73)] [(2, 2)] (fun k => (.loop 2 c30_L2 (b30_2 k) (fun g => .nil) .nil)) ⟨ok73, trivial⟩ Tryz.func30 rfl
def S85 (k : Nat) (a : Int) : Option Y0_36 :=
 (bif decide (a < 0) then
  none
 else
  (bif decide ((IntKind.i64.wrap (a - 0)) > 0) then
   az ([] : List Y0_8) (IntKind.i64.wrap (a - 0)) 32 (0, 0, 0, 0) fun r0 =>
   sx r0 0 0 <|
   some ((r0.take 0, ()), ())
  else
   some (([], ()), ())))
def F85 : Fn := ⟨[.pv (.nil), .val ⟨false, (.int .i64), false⟩], [.val ⟨false, Y0_38, true⟩], fun k x => S85 k x.2.1⟩
theorem ok85 : FnOK Tryz.prog 85 F85 := okF [] [(25, 1)] (fun k => .nil) trivial Tryz.func85 rfl
abbrev c36_L11 : Cut := ⟨[6, 25, 26, 27], [.own 87 Y0_9, .cell (.sl 75 Y0_38), cI, cI], [], 36, []⟩
def l36_11 (k : Nat) (g11 : (List Y0_8) → Y0_71 → Int → Int → Option Y0_36) (a : List Y0_8) (b : List (List Y0_8)) (c e : Int) : Option Y0_36 :=
 (bif decide (e < c) then
  ix b e <|
  ap a (rd b e []) 32 fun r1 =>
  g11 r1 b c (IntKind.i64.wrap (e + 1))
 else
  some ((a, ()), ()))
def b36_11 (k : Nat) (g : ((Unit) × (List Y0_8) × Y0_71 × Int × Int × Unit) → Option Y0_36) (d : (Unit) × (List Y0_8) × Y0_71 × Int × Int × Unit) : Option Y0_36 := l36_11 k (fun a b c e => g ((), a, b, c, e, ())) d.2.1 d.2.2.1 d.2.2.2.1 d.2.2.2.2.1
def L36_11 (k a : Nat) (b : List Y0_8) (c : List (List Y0_8)) (e f : Int) : Option Y0_36 := iter (R := ((List Y0_8) × Unit) × Unit) c36_L11 (b36_11 k) a ((), b, c, e, f, ())
theorem L36_11_s (k a b c e f) : L36_11 k (a + 1) b c e f = l36_11 k (L36_11 k a) b c e f := iter_succ _ _ _ _
abbrev c36_L3 : Cut := ⟨[0, 3, 9, 10, 11], [.cell (.sl 75 Y0_38), cI, .cell (.sl 75 Y0_38), cI, cI], [], 36, []⟩
def l36_3 (k : Nat) (g3 : Y0_71 → Int → Y0_71 → Int → Int → Option Y0_36) (a : List (List Y0_8)) (b : Int) (c : List (List Y0_8)) (e f : Int) : Option Y0_36 :=
 (bif decide (f < e) then
  ix c f <|
  (bif decide ((IntKind.i64.wrap (b + ((rd c f []).length : Int))) < 0) then
   none
  else
   g3 a (IntKind.i64.wrap (b + ((rd c f []).length : Int))) c e (IntKind.i64.wrap (f + 1)))
 else
  (S85 k b).bind fun q0 =>
  L36_11 k k q0.1.1 a (a.length : Int) 0)
def b36_3 (k : Nat) (g : ((Unit) × Y0_71 × Int × Y0_71 × Int × Int × Unit) → Option Y0_36) (d : (Unit) × Y0_71 × Int × Y0_71 × Int × Int × Unit) : Option Y0_36 := l36_3 k (fun a b c e f => g ((), a, b, c, e, f, ())) d.2.1 d.2.2.1 d.2.2.2.1 d.2.2.2.2.1 d.2.2.2.2.2.1
def L36_3 (k a : Nat) (b : List (List Y0_8)) (c : Int) (e : List (List Y0_8)) (f h : Int) : Option Y0_36 := iter (R := ((List Y0_8) × Unit) × Unit) c36_L3 (b36_3 k) a ((), b, c, e, f, h, ())
theorem L36_3_s (k a b c e f h) : L36_3 k (a + 1) b c e f h = l36_3 k (L36_3 k a) b c e f h := iter_succ _ _ _ _
def S36 (k : Nat) (a : List (List Y0_8)) : Option Y0_36 :=
 L36_3 k k a 0 a (a.length : Int) 0
def F36 : Fn := ⟨[.val ⟨false, (.sl 75 Y0_38), false⟩], [.val ⟨false, Y0_38, true⟩], fun k x => S36 k x.1⟩
theorem ok36 : FnOK Tryz.prog 36 F36 := okF [(85, F85)] [] (fun k => (.loop 11 c36_L11 (b36_11 k) (fun g => .nil) (.loop 3 c36_L3 (b36_3 k) (fun g => .nil) .nil))) ⟨ok85, trivial⟩ Tryz.func36 rfl
def S37 (k : Nat) (a : Int × Int × Int × Int) (b : Y0_25) : Option Y0_14 :=
 (bif a.1 == 9 then
  some ((decide (a.2.1 ≥ (b.length : Int)), ()), ())
 else
  some ((false, ()), ()))
def F37 : Fn := ⟨[.val ⟨true, Y0_9, false⟩, .pv (.ref Y0_68)], [.val ⟨false, .bool, true⟩], fun k x => S37 k x.1 x.2.1⟩
theorem ok37 : FnOK Tryz.prog 37 F37 := okF [] [] (fun k => .nil) trivial Tryz.func37 rfl
abbrev c84_L2 : Cut := ⟨[0, 1, 7, 8], [.cell Y0_38, .clo 37 [.ref Y0_68], cI, cI], [], 19, []⟩
def l84_2 (k : Nat) (g2 : (List Y0_8) → Y0_21 → Int → Int → Option Y0_13) (a : List Y0_8) (b : Y0_25) (c e : Int) : Option Y0_13 :=
 (bif decide (e < c) then
  ix a e <|
  (S37 k (rd a e (0, 0, 0, 0)) b).bind fun q0 =>
  (bif q0.1.1 then
   some ((e, ()), ())
  else
   g2 a b c (IntKind.i64.wrap (e + 1)))
 else
  some (((-1), ()), ()))
def b84_2 (k : Nat) (g : ((Unit) × (List Y0_8) × (Y0_21 × Unit) × Int × Int × Unit) → Option Y0_13) (d : (Unit) × (List Y0_8) × (Y0_21 × Unit) × Int × Int × Unit) : Option Y0_13 := l84_2 k (fun a b c e => g ((), a, (b, ()), c, e, ())) d.2.1 d.2.2.1.1 d.2.2.2.1 d.2.2.2.2.1
def L84_2 (k a : Nat) (b : List Y0_8) (c : Y0_25) (e f : Int) : Option Y0_13 := iter (R := Y0_61 × Unit) c84_L2 (b84_2 k) a ((), b, (c, ()), e, f, ())
theorem L84_2_s (k a b c e f) : L84_2 k (a + 1) b c e f = l84_2 k (L84_2 k a) b c e f := iter_succ _ _ _ _
def S84 (k : Nat) (a : List Y0_8) (b : Y0_25) : Option Y0_13 :=
 L84_2 k k a b (a.length : Int) 0
def F84 : Fn := ⟨[.val ⟨false, Y0_38, false⟩, .pv (.clo 37 [.ref Y0_68])], [.val ⟨false, (.int .i64), true⟩], fun k x => S84 k x.1 x.2.1.1⟩
theorem ok84 : FnOK Tryz.prog 84 F84 := okF [(37, F37)] [] (fun k => (.loop 2 c84_L2 (b84_2 k) (fun g => .nil) .nil)) ⟨ok37, trivial⟩ Tryz.func84 rfl
def S35 (k : Nat) (a : List Y0_8) (b : Y0_25) : Option Y0_14 :=
 (S84 k a b).bind fun q0 =>
 some ((decide (q0.1.1 ≥ 0), ()), ())
def F35 : Fn := ⟨[.val ⟨false, Y0_38, false⟩, .pv (.clo 37 [.ref Y0_68])], [.val ⟨false, .bool, true⟩], fun k x => S35 k x.1 x.2.1.1⟩
theorem ok35 : FnOK Tryz.prog 35 F35 := okF [(84, F84)] [] (fun k => .nil) ⟨ok84, trivial⟩ Tryz.func35 rfl
def S88 (k : Nat) (a : Int × Int × Int × Int) (b : Int) : Option Y0_14 :=
 (bif a.1 == 9 then
  some ((a.2.1 == b, ()), ())
 else
  some ((false, ()), ()))
def F88 : Fn := ⟨[.val ⟨true, Y0_9, false⟩, .pv (.ref (.int .i64))], [.val ⟨false, .bool, true⟩], fun k x => S88 k x.1 x.2.1⟩
theorem ok88 : FnOK Tryz.prog 88 F88 := okF [] [] (fun k => .nil) trivial Tryz.func88 rfl
abbrev c84a_L2 : Cut := ⟨[0, 1, 7, 8], [.cell Y0_38, .clo 88 [.ref (.int .i64)], cI, cI], [], 19, []⟩
def l84a_2 (k : Nat) (g2 : (List Y0_8) → Int → Int → Int → Option Y0_13) (a : List Y0_8) (b c e : Int) : Option Y0_13 :=
 (bif decide (e < c) then
  ix a e <|
  (S88 k (rd a e (0, 0, 0, 0)) b).bind fun q0 =>
  (bif q0.1.1 then
   some ((e, ()), ())
  else
   g2 a b c (IntKind.i64.wrap (e + 1)))
 else
  some (((-1), ()), ()))
def b84a_2 (k : Nat) (g : ((Unit) × (List Y0_8) × Y0_61 × Int × Int × Unit) → Option Y0_13) (d : (Unit) × (List Y0_8) × Y0_61 × Int × Int × Unit) : Option Y0_13 := l84a_2 k (fun a b c e => g ((), a, (b, ()), c, e, ())) d.2.1 d.2.2.1.1 d.2.2.2.1 d.2.2.2.2.1
def L84a_2 (k a : Nat) (b : List Y0_8) (c e f : Int) : Option Y0_13 := iter (R := Y0_61 × Unit) c84a_L2 (b84a_2 k) a ((), b, (c, ()), e, f, ())
theorem L84a_2_s (k a b c e f) : L84a_2 k (a + 1) b c e f = l84a_2 k (L84a_2 k a) b c e f := iter_succ _ _ _ _
def S84a (k : Nat) (a : List Y0_8) (b : Int) : Option Y0_13 :=
 L84a_2 k k a b (a.length : Int) 0
def F84a : Fn := ⟨[.val ⟨false, Y0_38, false⟩, .pv (.clo 88 [.ref (.int .i64)])], [.val ⟨false, (.int .i64), true⟩], fun k x => S84a k x.1 x.2.1.1⟩
theorem ok84a : FnOK Tryz.prog 84 F84a := okF [(88, F88)] [] (fun k => (.loop 2 c84a_L2 (b84a_2 k) (fun g => .nil) .nil)) ⟨ok88, trivial⟩ Tryz.func84 rfl
def S35a (k : Nat) (a : List Y0_8) (b : Int) : Option Y0_14 :=
 (S84a k a b).bind fun q0 =>
 some ((decide (q0.1.1 ≥ 0), ()), ())
def F35a : Fn := ⟨[.val ⟨false, Y0_38, false⟩, .pv (.clo 88 [.ref (.int .i64)])], [.val ⟨false, .bool, true⟩], fun k x => S35a k x.1 x.2.1.1⟩
theorem ok35a : FnOK Tryz.prog 35 F35a := okF [(84, F84a)] [] (fun k => .nil) ⟨ok84a, trivial⟩ Tryz.func35 rfl
def S87 (k : Nat) (a : Y0_59) (b : Int) : Option Y0_14 :=
 (S36 k ([a.2.2.2.1, a.2.2.2.2.1] : List (List Y0_8))).bind fun q0 =>
 (S35a k q0.1.1 b).bind fun q1 =>
 some ((q1.1.1, ()), ())
def F87 : Fn := ⟨[.val ⟨true, Y0_4, false⟩, .pv (.ref (.int .i64))], [.val ⟨false, .bool, true⟩], fun k x => S87 k x.1 x.2.1⟩
theorem ok87 : FnOK Tryz.prog 87 F87 := okF [(35, F35a), (36, F36)] [] (fun k => .nil) ⟨ok35a, ok36, trivial⟩ Tryz.func87 rfl
abbrev c86_L2 : Cut := ⟨[0, 1, 7, 8], [.cell Y0_57, .clo 87 [.ref (.int .i64)], cI, cI], [], 19, []⟩
def l86_2 (k : Nat) (g2 : Y0_47) (a : List Y0_0) (b c e : Int) : Option Y0_13 :=
 (bif decide (e < c) then
  ix a e <|
  (S87 k (rd a e (0, 0, 0, [], [], [])) b).bind fun q0 =>
  (bif q0.1.1 then
   some ((e, ()), ())
  else
   g2 a b c (IntKind.i64.wrap (e + 1)))
 else
  some (((-1), ()), ()))
def b86_2 (k : Nat) (g : ((Unit) × (List Y0_0) × Y0_61 × Int × Int × Unit) → Option Y0_13) (d : (Unit) × (List Y0_0) × Y0_61 × Int × Int × Unit) : Option Y0_13 := l86_2 k (fun a b c e => g ((), a, (b, ()), c, e, ())) d.2.1 d.2.2.1.1 d.2.2.2.1 d.2.2.2.2.1
def L86_2 (k a : Nat) (b : List Y0_0) (c e f : Int) : Option Y0_13 := iter (R := Y0_61 × Unit) c86_L2 (b86_2 k) a ((), b, (c, ()), e, f, ())
theorem L86_2_s (k a b c e f) : L86_2 k (a + 1) b c e f = l86_2 k (L86_2 k a) b c e f := iter_succ _ _ _ _
def S86 (k : Nat) (a : List Y0_0) (b : Int) : Option Y0_13 :=
 L86_2 k k a b (a.length : Int) 0
def F86 : Fn := ⟨[.val ⟨false, Y0_57, false⟩, .pv (.clo 87 [.ref (.int .i64)])], [.val ⟨false, (.int .i64), true⟩], fun k x => S86 k x.1 x.2.1.1⟩
theorem ok86 : FnOK Tryz.prog 86 F86 := okF [(87, F87)] [] (fun k => (.loop 2 c86_L2 (b86_2 k) (fun g => .nil) .nil)) ⟨ok87, trivial⟩ Tryz.func86 rfl
def S38 (k : Nat) (a : List Y0_0) (b : Int) : Option Y0_13 :=
 (S86 k a b).bind fun q0 =>
 (bif decide (q0.1.1 < 0) then
  some ((8, ()), ())
 else
  some ((q0.1.1, ()), ()))
def F38 : Fn := ⟨[.val ⟨false, Y0_57, false⟩, .val ⟨false, (.int .i64), false⟩], [.val ⟨false, (.int .i64), true⟩], fun k x => S38 k x.1 x.2.1⟩
theorem ok38 : FnOK Tryz.prog 38 F38 := okF [(86, F86)] [] (fun k => .nil) ⟨ok86, trivial⟩ Tryz.func38 rfl
abbrev c39_L1 : Cut := ⟨[0, 1, 11, 12, 13], [.pin false 0, .cell Y0_68, .own 3 (.int .i64), cI, cI], [.mbox 37 [cI, cI, .cell Y0_57, .own 96 Y0_33, .cell .bool, .cell .bool, .cell .bool, .own 94 Y0_2, .own 3 (.int .i64), .own 4 .bool, .own 124 Y0_5, .own 3 (.int .i64), .own 4 .bool]], 55, []⟩
def l39_1 (k : Nat) (g1 : Int → Int → (List Y0_0) → Y0_37 → Bool → Bool → Bool → (List Y0_1) → (List Int) → (List Bool) → (List Y0_3) → (List Int) → (List Bool) → Y0_21 → (List Int) → Int → Int → Option ((Unit) × Y0_10 × Unit)) (a b : Int) (c : List Y0_0) (e : List (PN Int 5)) (f h i : Bool) (l : List Y0_1) (m : List Int) (n : List Bool) (o : List Y0_3) (p : List Int) (s : List Bool) (t : Y0_25) (u : List Int) (v w : Int) : Option ((Unit) × Y0_10 × Unit) :=
 (bif decide (w < v) then
  ix u w <|
  ix o (rd u w 0) <|
  (bif decide (w < (t.length : Int)) then
   ix t w <|
   (bif !(beqD Y0_16 (rd o (rd u w 0) (0, (0, 0), (0, 0), ([], []), (0, []), 0)).2.2.1 (rd t w (0, 0))) then
    ix t w <|
    (S82 k ((m, n), o) (rd u w 0) ((rd o (rd u w 0) (0, (0, 0), (0, 0), ([], []), (0, []), 0)).1, (rd o (rd u w 0) (0, (0, 0), (0, 0), ([], []), (0, []), 0)).2.1, rd t w (0, 0), (rd o (rd u w 0) (0, (0, 0), (0, 0), ([], []), (0, []), 0)).2.2.2)).bind fun q1 =>
    g1 a b c e f h i l q1.1.1.1.1 q1.1.1.1.2 q1.1.1.2 p s t u v (IntKind.i64.wrap (w + 1))
   else
    g1 a b c e f h i l m n o p s t u v (IntKind.i64.wrap (w + 1)))
  else
   g1 a b c e f h i l m n o p s t u v (IntKind.i64.wrap (w + 1)))
 else
  some ((), (a, b, c, e, f, h, i, l, m, n, o, p, s, ()), ()))
def b39_1 (k : Nat) (g : ((Y0_10 × Unit) × Unit × Y0_21 × (List Int) × Int × Int × Unit) → Option ((Unit) × Y0_10 × Unit)) (d : (Y0_10 × Unit) × Unit × Y0_21 × (List Int) × Int × Int × Unit) : Option ((Unit) × Y0_10 × Unit) := l39_1 k (fun a b c e f h i l m n o p s t u v w => g (((a, b, c, e, f, h, i, l, m, n, o, p, s, ()), ()), (), t, u, v, w, ())) d.1.1.1 d.1.1.2.1 d.1.1.2.2.1 d.1.1.2.2.2.1 d.1.1.2.2.2.2.1 d.1.1.2.2.2.2.2.1 d.1.1.2.2.2.2.2.2.1 d.1.1.2.2.2.2.2.2.2.1 d.1.1.2.2.2.2.2.2.2.2.1 d.1.1.2.2.2.2.2.2.2.2.2.1 d.1.1.2.2.2.2.2.2.2.2.2.2.1 d.1.1.2.2.2.2.2.2.2.2.2.2.2.1 d.1.1.2.2.2.2.2.2.2.2.2.2.2.2.1 d.2.2.1 d.2.2.2.1 d.2.2.2.2.1 d.2.2.2.2.2.1
def L39_1 (k a : Nat) (b c : Int) (e : List Y0_0) (f : List (PN Int 5)) (h i l : Bool) (m : List Y0_1) (n : List Int) (o : List Bool) (p : List Y0_3) (s : List Int) (t : List Bool) (u : Y0_25) (v : List Int) (w y : Int) : Option ((Unit) × Y0_10 × Unit) := iter (R := (Unit) × Y0_10 × Unit) c39_L1 (b39_1 k) a (((b, c, e, f, h, i, l, m, n, o, p, s, t, ()), ()), (), u, v, w, y, ())
theorem L39_1_s (k a b c e f h i l m n o p s t u v w y) : L39_1 k (a + 1) b c e f h i l m n o p s t u v w y = l39_1 k (L39_1 k a) b c e f h i l m n o p s t u v w y := iter_succ _ _ _ _
def S39 (k : Nat) (a b : Int) (c : List Y0_0) (e : List (PN Int 5)) (f h i : Bool) (l : List Y0_1) (m : List Int) (n : List Bool) (o : List Y0_3) (p : List Int) (s : List Bool) (t : Y0_25) : Option ((Unit) × Y0_10 × Unit) :=
 (S73 k ((m, n), o)).bind fun q0 =>
 L39_1 k k a b c e f h i l m n o p s t q0.1.1 (q0.1.1.length : Int) 0
def F39 : Fn := ⟨[.mbox 37 [cI, cI, .cell Y0_57, .own 96 Y0_33, .cell .bool, .cell .bool, .cell .bool, .own 94 Y0_2, .own 3 (.int .i64), .own 4 .bool, .own 124 Y0_5, .own 3 (.int .i64), .own 4 .bool], .val ⟨false, Y0_68, false⟩], [], fun k x => S39 k x.1.1 x.1.2.1 x.1.2.2.1 x.1.2.2.2.1 x.1.2.2.2.2.1 x.1.2.2.2.2.2.1 x.1.2.2.2.2.2.2.1 x.1.2.2.2.2.2.2.2.1 x.1.2.2.2.2.2.2.2.2.1 x.1.2.2.2.2.2.2.2.2.2.1 x.1.2.2.2.2.2.2.2.2.2.2.1 x.1.2.2.2.2.2.2.2.2.2.2.2.1 x.1.2.2.2.2.2.2.2.2.2.2.2.2.1 x.2.1⟩
theorem ok39 : FnOK Tryz.prog 39 F39 := okF [(73, F73), (82, F82)] [] (fun k => (.loop 1 c39_L1 (b39_1 k) (fun g => .nil) .nil)) ⟨ok73, ok82, trivial⟩ Tryz.func39 rfl
abbrev c12_L12 : Cut := ⟨[1, 2, 4, 33, 34], [.box 37 [cI, cI, .cell Y0_57, .own 96 Y0_33, .cell .bool, .cell .bool, .cell .bool, .own 94 Y0_2, .own 3 (.int .i64), .own 4 .bool, .own 124 Y0_5, .own 3 (.int .i64), .own 4 .bool], .box 37 [cI, cI, .nil, .nil, .cell .bool, .cell .bool, .cell .bool, .nil, .nil, .nil, .nil, .nil, .nil], .box 98 [.own 114 Y0_16], cI, cI], [], 50, []⟩
def l12_12 (k : Nat) (g12 : Int → Int → (List Y0_0) → Y0_37 → Bool → Bool → Bool → (List Y0_1) → (List Int) → (List Bool) → (List Y0_3) → (List Int) → (List Bool) → Int → Int → Bool → Bool → Bool → Y0_21 → Int → Int → Option Y0_43) (a b : Int) (c : List Y0_0) (e : List (PN Int 5)) (f h i : Bool) (l : List Y0_1) (m : List Int) (n : List Bool) (o : List Y0_3) (p : List Int) (s : List Bool) (t u : Int) (v w y : Bool) (z : Y0_25) (A B : Int) : Option Y0_43 :=
 (bif decide (B < A) then
  (S38 k c B).bind fun q4 =>
  ix z B <|
  g12 a b c e f h i l m n o p s t u v w y (upd z B (q4.1.1, (rd z B (0, 0)).2)) A (IntKind.i64.wrap (B + 1))
 else
  (S39 k a b c e f h i l m n o p s z).bind fun q5 =>
  some (((q5.2.1.1, q5.2.1.2.1, q5.2.1.2.2.1, q5.2.1.2.2.2.1, true, q5.2.1.2.2.2.2.2.1, q5.2.1.2.2.2.2.2.2.1, q5.2.1.2.2.2.2.2.2.2.1, ((q5.2.1.2.2.2.2.2.2.2.2.1, q5.2.1.2.2.2.2.2.2.2.2.2.1), q5.2.1.2.2.2.2.2.2.2.2.2.2.1), q5.2.1.2.2.2.2.2.2.2.2.2.2.2.1, q5.2.1.2.2.2.2.2.2.2.2.2.2.2.2.1), 0, ()), ()))
def b12_12 (k : Nat) (g : ((Unit) × Y0_10 × Y0_22 × (Y0_21 × Unit) × Int × Int × Unit) → Option Y0_43) (d : (Unit) × Y0_10 × Y0_22 × (Y0_21 × Unit) × Int × Int × Unit) : Option Y0_43 := l12_12 k (fun a b c e f h i l m n o p s t u v w y z A B => g ((), (a, b, c, e, f, h, i, l, m, n, o, p, s, ()), (t, u, (), (), v, w, y, (), (), (), (), (), (), ()), (z, ()), A, B, ())) d.2.1.1 d.2.1.2.1 d.2.1.2.2.1 d.2.1.2.2.2.1 d.2.1.2.2.2.2.1 d.2.1.2.2.2.2.2.1 d.2.1.2.2.2.2.2.2.1 d.2.1.2.2.2.2.2.2.2.1 d.2.1.2.2.2.2.2.2.2.2.1 d.2.1.2.2.2.2.2.2.2.2.2.1 d.2.1.2.2.2.2.2.2.2.2.2.2.1 d.2.1.2.2.2.2.2.2.2.2.2.2.2.1 d.2.1.2.2.2.2.2.2.2.2.2.2.2.2.1 d.2.2.1.1 d.2.2.1.2.1 d.2.2.1.2.2.2.2.1 d.2.2.1.2.2.2.2.2.1 d.2.2.1.2.2.2.2.2.2.1 d.2.2.2.1.1 d.2.2.2.2.1 d.2.2.2.2.2.1
def L12_12 (k a : Nat) (b c : Int) (e : List Y0_0) (f : List (PN Int 5)) (h i l : Bool) (m : List Y0_1) (n : List Int) (o : List Bool) (p : List Y0_3) (s : List Int) (t : List Bool) (u v : Int) (w y z : Bool) (A : Y0_25) (B C : Int) : Option Y0_43 := iter (R := (Y0_7 × Int × Unit) × Unit) c12_L12 (b12_12 k) a ((), (b, c, e, f, h, i, l, m, n, o, p, s, t, ()), (u, v, (), (), w, y, z, (), (), (), (), (), (), ()), (A, ()), B, C, ())
theorem L12_12_s (k a b c e f h i l m n o p s t u v w y z A B C) : L12_12 k (a + 1) b c e f h i l m n o p s t u v w y z A B C = l12_12 k (L12_12 k a) b c e f h i l m n o p s t u v w y z A B C := iter_succ _ _ _ _
abbrev c12_L6 : Cut := ⟨[1, 2, 4, 16, 17, 18], [.box 37 [cI, cI, .cell Y0_57, .own 96 Y0_33, .cell .bool, .cell .bool, .cell .bool, .own 94 Y0_2, .own 3 (.int .i64), .own 4 .bool, .own 124 Y0_5, .own 3 (.int .i64), .own 4 .bool], .box 37 [cI, cI, .nil, .nil, .cell .bool, .cell .bool, .cell .bool, .nil, .nil, .nil, .nil, .nil, .nil], .box 98 [.own 114 Y0_16], .cell Y0_57, cI, cI], [], 50, []⟩
def l12_6 (k : Nat) (g6 : Int → Int → (List Y0_0) → Y0_37 → Bool → Bool → Bool → (List Y0_1) → (List Int) → (List Bool) → (List Y0_3) → (List Int) → (List Bool) → Int → Int → Bool → Bool → Bool → Y0_21 → (List Y0_0) → Int → Int → Option Y0_43) (a b : Int) (c : List Y0_0) (e : List (PN Int 5)) (f h i : Bool) (l : List Y0_1) (m : List Int) (n : List Bool) (o : List Y0_3) (p : List Int) (s : List Bool) (t u : Int) (v w y : Bool) (z : Y0_25) (A : List Y0_0) (B C : Int) : Option Y0_43 :=
 (bif decide (C < B) then
  ix A C <|
  (S36 k ([(rd A C (0, 0, 0, [], [], [])).2.2.2.1, (rd A C (0, 0, 0, [], [], [])).2.2.2.2.1] : List (List Y0_8))).bind fun q2 =>
  (S35 k q2.1.1 z).bind fun q3 =>
  (bif q3.1.1 then
   some (((a, b, c, e, f, h, i, l, ((m, n), o), p, s), 4, ()), ())
  else
   g6 a b c e f h i l m n o p s t u v w y z A B (IntKind.i64.wrap (C + 1)))
 else
  L12_12 k k a b c e f h i l m n o p s t u v w y z (z.length : Int) 0)
def b12_6 (k : Nat) (g : ((Unit) × Y0_10 × Y0_22 × (Y0_21 × Unit) × (List Y0_0) × Int × Int × Unit) → Option Y0_43) (d : (Unit) × Y0_10 × Y0_22 × (Y0_21 × Unit) × (List Y0_0) × Int × Int × Unit) : Option Y0_43 := l12_6 k (fun a b c e f h i l m n o p s t u v w y z A B C => g ((), (a, b, c, e, f, h, i, l, m, n, o, p, s, ()), (t, u, (), (), v, w, y, (), (), (), (), (), (), ()), (z, ()), A, B, C, ())) d.2.1.1 d.2.1.2.1 d.2.1.2.2.1 d.2.1.2.2.2.1 d.2.1.2.2.2.2.1 d.2.1.2.2.2.2.2.1 d.2.1.2.2.2.2.2.2.1 d.2.1.2.2.2.2.2.2.2.1 d.2.1.2.2.2.2.2.2.2.2.1 d.2.1.2.2.2.2.2.2.2.2.2.1 d.2.1.2.2.2.2.2.2.2.2.2.2.1 d.2.1.2.2.2.2.2.2.2.2.2.2.2.1 d.2.1.2.2.2.2.2.2.2.2.2.2.2.2.1 d.2.2.1.1 d.2.2.1.2.1 d.2.2.1.2.2.2.2.1 d.2.2.1.2.2.2.2.2.1 d.2.2.1.2.2.2.2.2.2.1 d.2.2.2.1.1 d.2.2.2.2.1 d.2.2.2.2.2.1 d.2.2.2.2.2.2.1
def L12_6 (k a : Nat) (b c : Int) (e : List Y0_0) (f : List (PN Int 5)) (h i l : Bool) (m : List Y0_1) (n : List Int) (o : List Bool) (p : List Y0_3) (s : List Int) (t : List Bool) (u v : Int) (w y z : Bool) (A : Y0_25) (B : List Y0_0) (C D : Int) : Option Y0_43 := iter (R := (Y0_7 × Int × Unit) × Unit) c12_L6 (b12_6 k) a ((), (b, c, e, f, h, i, l, m, n, o, p, s, t, ()), (u, v, (), (), w, y, z, (), (), (), (), (), (), ()), (A, ()), B, C, D, ())
theorem L12_6_s (k a b c e f h i l m n o p s t u v w y z A B C D) : L12_6 k (a + 1) b c e f h i l m n o p s t u v w y z A B C D = l12_6 k (L12_6 k a) b c e f h i l m n o p s t u v w y z A B C D := iter_succ _ _ _ _
def S12 (k : Nat) (a : Y0_26) : Option Y0_43 :=
 (S34 k a).bind fun q0 =>
 (bif q0.1.1.2.2.2.2.1 then
  some ((q0.1.1, 7, ()), ())
 else
  (S30 k q0.1.1).bind fun q1 =>
  L12_6 k k q0.1.1.1 q0.1.1.2.1 q0.1.1.2.2.1 q0.1.1.2.2.2.1 q0.1.1.2.2.2.2.1 q0.1.1.2.2.2.2.2.1 q0.1.1.2.2.2.2.2.2.1 q0.1.1.2.2.2.2.2.2.2.1 q0.1.1.2.2.2.2.2.2.2.2.1.1.1 q0.1.1.2.2.2.2.2.2.2.2.1.1.2 q0.1.1.2.2.2.2.2.2.2.2.1.2 q0.1.1.2.2.2.2.2.2.2.2.2.1 q0.1.1.2.2.2.2.2.2.2.2.2.2 0 0 false false false q1.1.1 q0.1.1.2.2.1 (q0.1.1.2.2.1.length : Int) 0)
def F12 : Fn := ⟨[.val ⟨true, Y0_11, false⟩], [.val ⟨true, Y0_11, false⟩, .val ⟨false, (.int .i64), true⟩], fun k x => S12 k x.1⟩
theorem ok12 : FnOK Tryz.prog 12 F12 := okF [(30, F30), (34, F34), (35, F35), (36, F36), (38, F38), (39, F39)] [] (fun k => (.loop 12 c12_L12 (b12_12 k) (fun g => .nil) (.loop 6 c12_L6 (b12_6 k) (fun g => .nil) .nil))) ⟨ok30, ok34, ok35, ok36, ok38, ok39, trivial⟩ Tryz.func12 rfl
def S96 (k : Nat) (a : Y0_34) (b : Int) : Option Y0_13 :=
 some ((IntKind.i64.wrap (a.1 - b), ()), ())
def F96 : Fn := ⟨[.val ⟨true, Y0_2, false⟩, .val ⟨false, (.int .i64), false⟩], [.val ⟨false, (.int .i64), true⟩], fun k x => S96 k x.1 x.2.1⟩
theorem ok96 : FnOK Tryz.prog 96 F96 := okF [] [] (fun k => .nil) trivial Tryz.func96 rfl
abbrev c95_L3 : Cut := ⟨[0, 1, 2, 8, 9, 10], [.cell (.sl 94 Y0_2), cI, .clo 96 [], cI, cI, cI], [], 49, []⟩
def l95_3 (k : Nat) (g3 : (List Y0_1) → Int → Int → Int → Int → Option Y0_29) (a : List Y0_1) (b c e f : Int) : Option Y0_29 :=
 (bif decide (e < f) then
  ix a (IntKind.i64.wrap (ishr .u64 (IntKind.u64.wrap (IntKind.i64.wrap (e + f))) 1)) <|
  (S96 k (rd a (IntKind.i64.wrap (ishr .u64 (IntKind.u64.wrap (IntKind.i64.wrap (e + f))) 1)) (0, 0, 0, 0, (0, prep (α := Int) 8 0, [], false), (0, prep (α := Int) 8 0, [], false), [], false)) b).bind fun q0 =>
  (bif decide (q0.1.1 < 0) then
   g3 a b c (IntKind.i64.wrap ((IntKind.i64.wrap (ishr .u64 (IntKind.u64.wrap (IntKind.i64.wrap (e + f))) 1)) + 1)) f
  else
   g3 a b c e (IntKind.i64.wrap (ishr .u64 (IntKind.u64.wrap (IntKind.i64.wrap (e + f))) 1)))
 else
  (bif decide (e < c) then
   ix a e <|
   (S96 k (rd a e (0, 0, 0, 0, (0, prep (α := Int) 8 0, [], false), (0, prep (α := Int) 8 0, [], false), [], false)) b).bind fun q1 =>
   some ((e, q1.1.1 == 0, ()), ())
  else
   some ((e, false, ()), ())))
def b95_3 (k : Nat) (g : ((Unit) × (List Y0_1) × Int × Unit × Int × Int × Int × Unit) → Option Y0_29) (d : (Unit) × (List Y0_1) × Int × Unit × Int × Int × Int × Unit) : Option Y0_29 := l95_3 k (fun a b c e f => g ((), a, b, (), c, e, f, ())) d.2.1 d.2.2.1 d.2.2.2.2.1 d.2.2.2.2.2.1 d.2.2.2.2.2.2.1
def L95_3 (k a : Nat) (b : List Y0_1) (c e f h : Int) : Option Y0_29 := iter (R := (Int × Bool × Unit) × Unit) c95_L3 (b95_3 k) a ((), b, c, (), e, f, h, ())
theorem L95_3_s (k a b c e f h) : L95_3 k (a + 1) b c e f h = l95_3 k (L95_3 k a) b c e f h := iter_succ _ _ _ _
def S95 (k : Nat) (x : List Y0_1) (a : Int) : Option Y0_29 :=
 L95_3 k k x a (x.length : Int) 0 (x.length : Int)
def F95 : Fn := ⟨[.val ⟨false, (.sl 94 Y0_2), false⟩, .val ⟨false, (.int .i64), false⟩, .pv (.clo 96 [])], [.val ⟨false, (.int .i64), true⟩, .val ⟨false, .bool, true⟩], fun k x => S95 k x.1 x.2.1⟩
theorem ok95 : FnOK Tryz.prog 95 F95 := okF [(96, F96)] [] (fun k => (.loop 3 c95_L3 (b95_3 k) (fun g => .nil) .nil)) ⟨ok96, trivial⟩ Tryz.func95 rfl
def S49 (k : Nat) (a : Y0_26) (b : Int) : Option Y0_29 :=
 (S95 k a.2.2.2.2.2.2.2.1 b).bind fun q0 =>
 some (q0.1, ())
def F49 : Fn := ⟨[.pv (.ref Y0_11), .val ⟨false, (.int .i64), false⟩], [.val ⟨false, (.int .i64), true⟩, .val ⟨false, .bool, true⟩], fun k x => S49 k x.1 x.2.1⟩
theorem ok49 : FnOK Tryz.prog 49 F49 := okF [(95, F95)] [] (fun k => .nil) ⟨ok95, trivial⟩ Tryz.func49 rfl
section
variable (w : World) {g n c i j : Nat}
theorem delF50_t : Tryz.prog.underlying 26 = some (.slice 94) ∧ Tryz.prog.underlying 3 = some (.int .i64) ∧ Tryz.prog.underlying 4 = some .bool ∧ Tryz.prog.follows .mixedOrders = true ∧ (∀ w, (Go.sizeOf 94).run Tryz.prog w = .ok 28 w) ∧ Tryz.f50.ntmps = 33 := ⟨by kernel_rfl, by kernel_rfl, by kernel_rfl, by kernel_rfl, fun w => by kernel_rfl, rfl⟩
theorem delF50_none {v : Value} (hv : (∃ A n c, v = .slice A n c ∧ i ≤ n ∧ n ≤ c ∧ c ≤ 9223372036854775807)) : Calls Tryz.prog 50 #[v, .int .i64 i, .int .i64 i] w fun e w' => e = .returned v ∧ w' = w := by
 obtain ⟨t24, t3, t4, mixed, z36, hnt⟩ := delF50_t
 have u24 := run_underlying t24; have u3 := run_underlying t3; have u4 := run_underlying t4
 obtain ⟨A, n, c, rfl, hi, hnc, hc63⟩ := hv
 have hi0 : (i : Int) ≤ (n : Int) := by omega
 have hi1 : (0 : Int) ≤ (i : Int) := by omega
 cases A <;> (go_enter Tryz.func50, hnt; go_wp2 <;> (go_ret; exact ⟨rfl, rfl⟩))
theorem delF50_some {w' w'' : World} (hlt : i < j) (hj : j ≤ n) (hnc : n ≤ c) (hc63 : c ≤ 9223372036854775807)
  (hap : ∀ ty A, (c ≠ j → A = (⟨g, j * 28, none⟩ : Addr)) → (Builtin.append_ #[26, 26] ty #[.slice (some ⟨g, 0, none⟩) i c, .slice (some A) (n - j) (c - j)]).run Tryz.prog w.drew = .ok (.slice (some ⟨g, 0, none⟩) (i + (n - j)) c) w')
  (hcl : ∀ ty dc, (Builtin.clear_ #[26] ty #[.slice (some ⟨g, (i + (n - j)) * 28, none⟩) (n - (i + (n - j))) dc]).run Tryz.prog w' = .ok (.tuple #[]) w'') :
  Calls Tryz.prog 50 #[.slice (some ⟨g, 0, none⟩) n c, .int .i64 i, .int .i64 j] w fun e w1 => e = .returned (.slice (some ⟨g, 0, none⟩) (i + (n - j)) c) ∧ w1 = w'' := by
 obtain ⟨t24, t3, t4, mixed, z36, hnt⟩ := delF50_t
 have u24 := run_underlying t24; have u3 := run_underlying t3; have u4 := run_underlying t4
 have hi0 : (i : Int) ≤ (n : Int) := by omega
 have hj0 : (j : Int) ≤ (n : Int) := by omega
 have hij : (i : Int) ≤ (j : Int) := by omega
 have hne : ¬ ((i : Int) = (j : Int)) := by omega
 have hic : i ≤ c := by omega
 have hjc : j ≤ c := by omega
 have hln : i + (n - j) ≤ n := by omega
 have hlc : i + (n - j) ≤ c := by omega
 have hci : ¬ (c = i + (n - j)) := by omega
 obtain ⟨A, hA, hA'⟩ : ∃ A : Addr, (if c = j then some (⟨g, 0, none⟩ : Addr) else some ⟨g, j * 28, none⟩) = some A ∧ (c ≠ j → A = (⟨g, j * 28, none⟩ : Addr)) := by
  by_cases h : c = j
  · exact ⟨_, if_pos h, fun q => absurd h q⟩
  · exact ⟨_, if_neg h, fun _ => rfl⟩
 try simp only [Nat.mul_one] at hA hcl
 go_enter Tryz.func50, hnt
 go_wp2_with fail
 go_region_law_o (refine append_step rfl rfl _ _ (by simp [Act.eval, Act.put]) (by simp [Act.eval, Act.put, hA]) (hap _ _ hA') ?_)
 go_wp2_with (at_builtin; refine clear_list rfl rfl _ rfl (hcl _ _) ?_)
 go_ret
 exact ⟨rfl, rfl⟩
end
abbrev P50 : List PT := delPs 94 Y0_2
abbrev R50 : List RT := delRs 94 Y0_2
def S50 (k : Nat) (a : List Y0_1) (i j : Int) : Option (((List Y0_1) × Unit) × Unit) := delSem 94 Y0_2 k (a, i, j, ())
def F50 : Fn := ⟨P50, R50, delSem 94 Y0_2⟩
def E50 : Env := tab.env (fun _ => none) (fun _ => 0)
theorem E50_ok : EnvOK Tryz.prog E50 := envOK_of tabOK _ _ (fun f F h => by cases h)
theorem ok50 : FnOK Tryz.prog 50 F50 := by
 obtain ⟨i0, z, a1, a2, a3, a4, a5⟩ := (E50_ok.ty 94 (Y0_2) (by kernel_rfl)).info
 have b2 : Ty.sz (Y0_2) = 28 := rfl
 have hz : z.cells.size = 28 := by rw [← Array.length_toList, a5, zeroV_len, b2]
 obtain ⟨t24, t3, t4, mixed, z36, hnt⟩ := delF50_t
 refine del_ok Tryz.func50 rfl (by kernel_rfl) ?_
 rw [b2]
 exact del_all (S := 26) (z := z) t24 a1 a4 (by rw [a2, b2]) hz (fun v hv => zeroV_one (Y0_2) v (by rw [← a5]; exact hv)) (by decide) (fun w i v h => delF50_none w h) (fun w g n c i j w' w'' h1 h2 h3 h4 h5 h6 => delF50_some w h1 h2 h3 h4 h5 h6)
def S99 (k : Nat) (a : Int) : Option (((Int × (PN Int 8) × (List (Int × Int × Int)) × Bool) × Unit) × Unit) :=
 some (((0, (a, 0, 0, 0, 0, 0, 0, 0), [], false), ()), ())
def F99 : Fn := ⟨[.val ⟨false, (.int .i64), false⟩], [.val ⟨true, (.pair (.int .i64) (.pair (arrT 8 (.int .i64)) (.pair (.sl 233 (.pair (.int .i64) Y0_16)) .bool))), true⟩], fun k x => S99 k x.1⟩
theorem ok99 : FnOK Tryz.prog 99 F99 := okF [] [] (fun k => .nil) trivial Tryz.func99 rfl
def S52 (k : Nat) (a b c : Int) : Option ((Y0_1 × Unit) × Unit) :=
 (S99 k c).bind fun q0 =>
 (S99 k c).bind fun q1 =>
 some (((a, b, c, 0, q0.1.1, q1.1.1, [], false), ()), ())
def F52 : Fn := ⟨[.val ⟨false, (.int .i64), false⟩, .val ⟨false, (.int .i64), false⟩, .val ⟨false, (.int .i64), false⟩], [.val ⟨true, Y0_2, true⟩], fun k x => S52 k x.1 x.2.1 x.2.2.1⟩
theorem ok52 : FnOK Tryz.prog 52 F52 := okF [(99, F99)] [] (fun k => .nil) ⟨ok99, trivial⟩ Tryz.func52 rfl
section
variable (w : World) {g n c i g2 m c2 : Nat}
theorem insF51_t : Tryz.prog.underlying 26 = some (.slice 94) ∧ Tryz.prog.underlying 3 = some (.int .i64) ∧ Tryz.prog.underlying 4 = some .bool ∧ Tryz.prog.follows .mixedOrders = true ∧ (∀ w, (Go.sizeOf 94).run Tryz.prog w = .ok 28 w) ∧ Tryz.f51.ntmps = 95 := ⟨by kernel_rfl, by kernel_rfl, by kernel_rfl, by kernel_rfl, fun w => by kernel_rfl, rfl⟩
theorem insF51_none {v u : Value} (hv : (∃ A n c, v = .slice A n c ∧ i ≤ n)) (hu : ∃ A c, u = .slice A m c) (hm : m = 0) : Calls Tryz.prog 51 #[v, .int .i64 i, u] w fun e w' => e = .returned v ∧ w' = w := by
 obtain ⟨t24, t3, t4, mixed, z36, hnt⟩ := insF51_t
 have u24 := run_underlying t24; have u3 := run_underlying t3; have u4 := run_underlying t4
 obtain ⟨A, n, c, rfl, hi⟩ := hv
 obtain ⟨A2, c2, rfl⟩ := hu
 have hi0 : (i : Int) ≤ (n : Int) := by omega
 have hz1 : (m : Int) = 0 := by omega
 cases A <;> (go_enter Tryz.func51, hnt; go_wp2 <;> (go_ret; exact ⟨rfl, rfl⟩))
theorem insF51_end {v : Value} {w' : World} {v' : Value} (hv : (∃ A c, v = .slice A n c)) (hm : 0 < m)
  (hr : ∀ ty, (Builtin.append_ #[26, 26] ty #[v, .slice (some ⟨g2, 0, none⟩) m c2]).run Tryz.prog w = .ok v' w') : Calls Tryz.prog 51 #[v, .int .i64 n, .slice (some ⟨g2, 0, none⟩) m c2] w fun e w1 => e = .returned v' ∧ w1 = w' := by
 obtain ⟨t24, t3, t4, mixed, z36, hnt⟩ := insF51_t
 have u24 := run_underlying t24; have u3 := run_underlying t3; have u4 := run_underlying t4
 have hz1 : ¬ ((m : Int) = 0) := by omega
 obtain ⟨A, c, rfl⟩ := hv
 go_enter Tryz.func51, hnt
 go_wp2_with (at_builtin; refine append_list rfl rfl _ _ rfl rfl (hr _) ?_)
 all_goals (go_ret; exact ⟨rfl, rfl⟩)
theorem insF51_shift {v' v'' : Value} {w' w'' : World} (hi : i < n) (hm : 0 < m) (hroom : n + m ≤ c) (hc63 : c ≤ 9223372036854775807)
  (hov : ∀ lb cb, (callFunc 97 #[.slice (some ⟨g2, 0, none⟩) m c2, .slice (some ⟨g, (i + m) * 28, none⟩) lb cb]).run Tryz.prog w = .ok (.value (.bool false)) w)
  (hcp1 : ∀ ty dc sc, (Builtin.copy_ #[26, 26] ty #[.slice (some ⟨g, (i + m) * 28, none⟩) (n + m - (i + m)) dc, .slice (some ⟨g, i * 28, none⟩) (n + m - i) sc]).run Tryz.prog w.drew = .ok v' w')
  (hcp2 : ∀ ty dc, (Builtin.copy_ #[26, 26] ty #[.slice (some ⟨g, i * 28, none⟩) (n + m - i) dc, .slice (some ⟨g2, 0, none⟩) m c2]).run Tryz.prog w' = .ok v'' w'') :
  Calls Tryz.prog 51 #[.slice (some ⟨g, 0, none⟩) n c, .int .i64 i, .slice (some ⟨g2, 0, none⟩) m c2] w fun e w1 => e = .returned (.slice (some ⟨g, 0, none⟩) (n + m) c) ∧ w1 = w'' := by
 obtain ⟨t24, t3, t4, mixed, z36, hnt⟩ := insF51_t
 have u24 := run_underlying t24; have u3 := run_underlying t3; have u4 := run_underlying t4
 have hz1 : ¬ ((m : Int) = 0) := by omega
 have hz2 : ¬ ((i : Int) = (n : Int)) := by omega
 have hw1 : IntKind.i64.wrap ((i : Int) + (m : Int)) = (i : Int) + (m : Int) := by rw [IntKind.wrap_i64]; omega
 have hb1 : (0 : Int) ≤ (i : Int) + (m : Int) := by omega
 have hin : i ≤ n := by omega
 have htn : ((i : Int) + (m : Int)).toNat = i + m := by omega
 have hb2 : ¬ (c = i + m) := by omega
 have hb3 : (i : Int) ≤ (n : Int) + (m : Int) := by omega
 have hb4 : ¬ (c = i) := by omega
 go_enter Tryz.func51, hnt
 go_wp2_with (simp only [hov])
 go_region_law_o (refine copy_step rfl rfl _ _ (by simp [Act.eval, Act.put]) (by simp [Act.eval, Act.put]) (hcp1 _ _ _) ?_)
 go_wp2_with (at_builtin; refine copy_list rfl rfl _ _ rfl rfl (hcp2 _ _) ?_)
 go_ret
 exact ⟨rfl, rfl⟩
theorem insF51_grow {h G : Nat} {v' v'' : Value} {w0 w' w'' : World} (hi : i < n) (hm : 0 < m) (hnc : n ≤ c) (hroom : c < n + m) (hc63 : n + m ≤ 140737488355328) (hG : n + m ≤ G) (hG63 : G ≤ 9223372036854775807)
  (hrz : ∀ ty, (Builtin.append_ #[26, 3] ty #[.slice (some ⟨g, 0, none⟩) i c, .int .i64 ((n : Int) + (m : Int) - (i : Int))]).run Tryz.prog w = .ok (.slice (some ⟨h, 0, none⟩) (n + m) G) w0)
  (hcp1 : ∀ ty dc, (Builtin.copy_ #[26, 26] ty #[.slice (some ⟨h, i * 28, none⟩) (n + m - i) dc, .slice (some ⟨g2, 0, none⟩) m c2]).run Tryz.prog w0 = .ok v' w')
  (hcp2 : ∀ ty dc sc, (Builtin.copy_ #[26, 26] ty #[.slice (some ⟨h, (i + m) * 28, none⟩) (n + m - (i + m)) dc, .slice (some ⟨g, i * 28, none⟩) (n - i) sc]).run Tryz.prog w'.drew = .ok v'' w'') :
  Calls Tryz.prog 51 #[.slice (some ⟨g, 0, none⟩) n c, .int .i64 i, .slice (some ⟨g2, 0, none⟩) m c2] w fun e w1 => e = .returned (.slice (some ⟨h, 0, none⟩) (n + m) G) ∧ w1 = w'' := by
 obtain ⟨t24, t3, t4, mixed, z36, hnt⟩ := insF51_t
 have u24 := run_underlying t24; have u3 := run_underlying t3; have u4 := run_underlying t4
 have hz1 : ¬ ((m : Int) = 0) := by omega
 have hz2 : ¬ ((i : Int) = (n : Int)) := by omega
 have hz3 : (c : Int) < (n : Int) + (m : Int) := by omega
 have hw1 : IntKind.i64.wrap ((i : Int) + (m : Int)) = (i : Int) + (m : Int) := by rw [IntKind.wrap_i64]; omega
 have hb1 : (0 : Int) ≤ (i : Int) + (m : Int) := by omega
 have hin : i ≤ n := by omega
 have htn : ((i : Int) + (m : Int)).toNat = i + m := by omega
 have hGi : ¬ (G = i) := by omega
 have hGim : ¬ (G = i + m) := by omega
 have hci : ¬ (c = i) := by omega
 have hb3 : (i : Int) ≤ (n : Int) := by omega
 go_enter Tryz.func51, hnt
 go_wp2_with (first
  | (at_builtin; refine append_list rfl rfl _ _ rfl rfl (hrz _) ?_)
  | (at_builtin; refine copy_list rfl rfl _ _ rfl rfl (hcp1 _ _) ?_))
 go_region_law_o (refine copy_step rfl rfl _ _ (by simp [Act.eval, Act.put]) (by simp [Act.eval, Act.put]) (hcp2 _ _ _) ?_)
 go_wp2
 go_ret
 exact ⟨rfl, rfl⟩
end
abbrev P51 : List PT := insPs 94 Y0_2
abbrev R51 : List RT := insRs 94 Y0_2
def S51 (k : Nat) (a : List Y0_1) (b : Int) (c : List Y0_1) : Option (((List Y0_1) × Unit) × Unit) := insSem 272 94 Y0_2 k (a, b, c, ())
def F51 : Fn := ⟨P51, R51, insSem 272 94 Y0_2⟩
def E51 : Env := tab.env (fun _ => none) (fun _ => 0)
theorem E51_ok : EnvOK Tryz.prog E51 := envOK_of tabOK _ _ (fun f F h => by cases h)
theorem ok51 : FnOK Tryz.prog 51 F51 := by
 obtain ⟨i0, z, a1, a2, a3, a4, a5⟩ := (E51_ok.ty 94 (Y0_2) (by kernel_rfl)).info
 have b1 : E51.byt 94 = 272 := by kernel_rfl
 have b2 : Ty.sz (Y0_2) = 28 := rfl
 rw [b1] at a3
 have hz : z.cells.size = 28 := by rw [← Array.length_toList, a5, zeroV_len, b2]
 obtain ⟨t24, t3, t4, mixed, z36, hnt⟩ := insF51_t
 refine ins_ok Tryz.func51 rfl (by kernel_rfl) ?_
 rw [b2, ← a3]
 refine ins_all (S := 26) (z := z) t24 t3 a1 a4 (by rw [a2, b2]) hz (by decide) (by rw [a3]; decide) (fun w i m v u h1 h2 h3 => insF51_none w h1 h2 h3) (fun w n g2 m c2 v v' w' h1 h2 h3 => insF51_end w h1 h2 h3) (fun w g n c i g2 m c2 v' v'' w' w'' h1 h2 h3 h4 h5 h6 hne hg hg2 => insF51_shift w h1 h2 h3 h4 (fun lb cb => ?_) h5 h6) (fun w g n c i g2 m c2 h G v' v'' w0 w' w'' h1 h2 h3 h4 h5 h6 h7 h8 h9 h10 => insF51_grow w h1 h2 h3 h4 h5 h6 h7 h8 h9 h10)
 obtain ⟨cur, q1, q2⟩ := hg
 obtain ⟨cur2, q3⟩ := hg2
 rw [run_callFunc_extern Tryz.func97 (by kernel_rfl) (by kernel_rfl) (by kernel_rfl) (e := Extern.SlicesOverlaps.overlaps #[26, 26] #[4]) (by kernel_rfl), Lib.run_overlaps_apart w 26 4 94 t24 28 z36 ⟨g2, 0, none⟩ ⟨g, (i + m) * 28, none⟩ m c2 lb cb hne 94 94 cur2.size cur.size (by simp [World.shape?, q3]) (by simp [World.shape?, q1]) q2 (Kd.frozen_row q3 _) (Kd.frozen_row q3 _)]
 rfl
abbrev c20_J17 : Cut := ⟨[1, 2, 3, 6, 9, 10], [cI, cI, .box 37 [cI, cI, .own 77 Y0_4, .own 96 Y0_33, .cell .bool, .cell .bool, .cell .bool, .own 94 Y0_2, .own 3 (.int .i64), .own 4 .bool, .own 124 Y0_5, .own 3 (.int .i64), .own 4 .bool], .box 37 [cI, cI, .nil, .nil, .cell .bool, .cell .bool, .cell .bool, .nil, .nil, .nil, .nil, .nil, .nil], .own 82 Y0_54, cI], [], 98, []⟩
def j20_17 (k : Nat) (a b c e : Int) (f : List Y0_0) (h : List (PN Int 5)) (i l m : Bool) (n : List Y0_1) (o : List Int) (p : List Bool) (s : List Y0_3) (t : List Int) (u : List Bool) (v w : Int) (y z A : Bool) (B : List (PN Int 6)) (C : Int) : Option ((Y0_7 × (List (PN Int 6)) × Int × Unit) × Unit) :=
 (S52 k a c b).bind fun q4 =>
 (S51 k n C ([q4.1.1] : List Y0_1)).bind fun q5 =>
 ap B ([(c, 1, a, 0, b, 0)] : List (PN Int 6)) 48 fun r6 =>
 some (((c, e, f, h, i, l, m, q5.1.1, ((o, p), s), t, u), r6, 0, ()), ())
abbrev c20_J10 : Cut := ⟨[1, 2, 3, 6], [cI, cI, .box 37 [cI, cI, .own 77 Y0_4, .own 96 Y0_33, .cell .bool, .cell .bool, .cell .bool, .own 94 Y0_2, .own 3 (.int .i64), .own 4 .bool, .own 124 Y0_5, .own 3 (.int .i64), .own 4 .bool], .box 37 [cI, cI, .nil, .nil, .cell .bool, .cell .bool, .cell .bool, .nil, .nil, .nil, .nil, .nil, .nil]], [], 98, []⟩
def j20_10 (k : Nat) (a b c e : Int) (f : List Y0_0) (h : List (PN Int 5)) (i l m : Bool) (n : List Y0_1) (o : List Int) (p : List Bool) (s : List Y0_3) (t : List Int) (u : List Bool) (v w : Int) (y z A : Bool) : Option ((Y0_7 × (List (PN Int 6)) × Int × Unit) × Unit) :=
 (S49 k (c, e, f, h, i, l, m, n, ((o, p), s), t, u) a).bind fun q1 =>
 (bif q1.1.2.1 then
  ix n q1.1.1 <|
  (bif (rd n q1.1.1 (0, 0, 0, 0, (0, prep (α := Int) 8 0, [], false), (0, prep (α := Int) 8 0, [], false), [], false)).2.2.2.1 != 2 then
   some (((c, e, f, h, i, l, m, n, ((o, p), s), t, u), [], 5, ()), ())
  else
   ap ([] : List (PN Int 6)) ([(c, 13, a, 0, 0, 0)] : List (PN Int 6)) 48 fun r2 =>
   (S50 k n q1.1.1 (IntKind.i64.wrap (q1.1.1 + 1))).bind fun q3 =>
   j20_17 k a b c e f h i l m q3.1.1 o p s t u v w y z A r2 q1.1.1)
 else
  j20_17 k a b c e f h i l m n o p s t u v w y z A ([] : List (PN Int 6)) q1.1.1)
def S20 (k : Nat) (a : Y0_26) (b c : Int) : Option ((Y0_7 × (List (PN Int 6)) × Int × Unit) × Unit) :=
 (S34 k a).bind fun q0 =>
 (bif !q0.1.1.2.2.2.2.1 then
  some ((q0.1.1, [], 8, ()), ())
 else
  (bif q0.1.1.2.2.2.2.2.1 then
   some ((q0.1.1, [], 17, ()), ())
  else
   (bif decide (b < 0) then
    some ((q0.1.1, [], 3, ()), ())
   else
    (bif decide (b ≥ (q0.1.1.2.2.1.length : Int)) then
     some ((q0.1.1, [], 3, ()), ())
    else
     (bif decide (b < (q0.1.1.2.2.2.2.2.2.2.2.2.2.length : Int)) then
      ix q0.1.1.2.2.2.2.2.2.2.2.2.2 b <|
      (bif rd q0.1.1.2.2.2.2.2.2.2.2.2.2 b false then
       some ((q0.1.1, [], 6, ()), ())
      else
       j20_10 k b c q0.1.1.1 q0.1.1.2.1 q0.1.1.2.2.1 q0.1.1.2.2.2.1 q0.1.1.2.2.2.2.1 q0.1.1.2.2.2.2.2.1 q0.1.1.2.2.2.2.2.2.1 q0.1.1.2.2.2.2.2.2.2.1 q0.1.1.2.2.2.2.2.2.2.2.1.1.1 q0.1.1.2.2.2.2.2.2.2.2.1.1.2 q0.1.1.2.2.2.2.2.2.2.2.1.2 q0.1.1.2.2.2.2.2.2.2.2.2.1 q0.1.1.2.2.2.2.2.2.2.2.2.2 0 0 false false false)
     else
      j20_10 k b c q0.1.1.1 q0.1.1.2.1 q0.1.1.2.2.1 q0.1.1.2.2.2.1 q0.1.1.2.2.2.2.1 q0.1.1.2.2.2.2.2.1 q0.1.1.2.2.2.2.2.2.1 q0.1.1.2.2.2.2.2.2.2.1 q0.1.1.2.2.2.2.2.2.2.2.1.1.1 q0.1.1.2.2.2.2.2.2.2.2.1.1.2 q0.1.1.2.2.2.2.2.2.2.2.1.2 q0.1.1.2.2.2.2.2.2.2.2.2.1 q0.1.1.2.2.2.2.2.2.2.2.2.2 0 0 false false false)))))
def F20 : Fn := ⟨[.val ⟨true, Y0_11, false⟩, .val ⟨false, (.int .i64), false⟩, .val ⟨false, (.int .i64), false⟩], [.val ⟨true, Y0_11, true⟩, .val ⟨false, (.sl 82 Y0_54), true⟩, .val ⟨false, (.int .i64), true⟩], fun k x => S20 k x.1 x.2.1 x.2.2.1⟩
theorem ok20 : FnOK Tryz.prog 20 F20 := okF [(34, F34), (49, F49), (50, F50), (51, F51), (52, F52)] [(9, 2)] (fun k => (.join 17 c20_J17 (fun d => j20_17 k d.2.1 d.2.2.1 d.2.2.2.1.1 d.2.2.2.1.2.1 d.2.2.2.1.2.2.1 d.2.2.2.1.2.2.2.1 d.2.2.2.1.2.2.2.2.1 d.2.2.2.1.2.2.2.2.2.1 d.2.2.2.1.2.2.2.2.2.2.1 d.2.2.2.1.2.2.2.2.2.2.2.1 d.2.2.2.1.2.2.2.2.2.2.2.2.1 d.2.2.2.1.2.2.2.2.2.2.2.2.2.1 d.2.2.2.1.2.2.2.2.2.2.2.2.2.2.1 d.2.2.2.1.2.2.2.2.2.2.2.2.2.2.2.1 d.2.2.2.1.2.2.2.2.2.2.2.2.2.2.2.2.1 d.2.2.2.2.1.1 d.2.2.2.2.1.2.1 d.2.2.2.2.1.2.2.2.2.1 d.2.2.2.2.1.2.2.2.2.2.1 d.2.2.2.2.1.2.2.2.2.2.2.1 d.2.2.2.2.2.1 d.2.2.2.2.2.2.1) (.join 10 c20_J10 (fun d => j20_10 k d.2.1 d.2.2.1 d.2.2.2.1.1 d.2.2.2.1.2.1 d.2.2.2.1.2.2.1 d.2.2.2.1.2.2.2.1 d.2.2.2.1.2.2.2.2.1 d.2.2.2.1.2.2.2.2.2.1 d.2.2.2.1.2.2.2.2.2.2.1 d.2.2.2.1.2.2.2.2.2.2.2.1 d.2.2.2.1.2.2.2.2.2.2.2.2.1 d.2.2.2.1.2.2.2.2.2.2.2.2.2.1 d.2.2.2.1.2.2.2.2.2.2.2.2.2.2.1 d.2.2.2.1.2.2.2.2.2.2.2.2.2.2.2.1 d.2.2.2.1.2.2.2.2.2.2.2.2.2.2.2.2.1 d.2.2.2.2.1.1 d.2.2.2.2.1.2.1 d.2.2.2.2.1.2.2.2.2.1 d.2.2.2.2.1.2.2.2.2.2.1 d.2.2.2.2.1.2.2.2.2.2.2.1) .nil))) ⟨ok34, ok49, ok50, ok51, ok52, trivial⟩ Tryz.func20 rfl
def S100 (k : Nat) (a b : Int) (c : List Y0_0) (e : List (PN Int 5)) (f h i : Bool) (l : List Y0_1) (m : List Int) (n : List Bool) (o : List Y0_3) (p : List Int) (s : List Bool) (t : List (PN Int 6)) (u : PN Int 6) : Option Y0_30 :=
 ap t ([(a, u.2)] : List (PN Int 6)) 48 fun r0 =>
 some ((), (a, b, c, e, f, h, i, l, m, n, o, p, s, r0, ()), ())
def F100 : Fn := ⟨[.mbox 150 [cI, cI, .own 77 Y0_4, .own 96 Y0_33, .cell .bool, .cell .bool, .cell .bool, .cell (.sl 94 Y0_2), .own 3 (.int .i64), .own 4 .bool, .own 124 Y0_5, .own 3 (.int .i64), .own 4 .bool, .own 82 Y0_54], .val ⟨true, Y0_54, false⟩], [], fun k x => S100 k x.1.1 x.1.2.1 x.1.2.2.1 x.1.2.2.2.1 x.1.2.2.2.2.1 x.1.2.2.2.2.2.1 x.1.2.2.2.2.2.2.1 x.1.2.2.2.2.2.2.2.1 x.1.2.2.2.2.2.2.2.2.1 x.1.2.2.2.2.2.2.2.2.2.1 x.1.2.2.2.2.2.2.2.2.2.2.1 x.1.2.2.2.2.2.2.2.2.2.2.2.1 x.1.2.2.2.2.2.2.2.2.2.2.2.2.1 x.1.2.2.2.2.2.2.2.2.2.2.2.2.2.1 x.2.1⟩
theorem ok100 : FnOK Tryz.prog 100 F100 := okF [] [] (fun k => .nil) trivial Tryz.func100 rfl
def S194 (k : Nat) (a : Y0_25) : Option Y0_44 := cloneSem 16 114 Y0_16 k (a, ())
def F194 : Fn := ⟨clonePs 114 Y0_16, cloneRs 114 Y0_16, cloneSem 16 114 Y0_16⟩
theorem ok194 : FnOK Tryz.prog 194 F194 := clone_ok E0_ok mix Tryz.func194 rfl (by kernel_rfl) (by kernel_rfl) (fun k => by kernel_rfl) (fun k xs => by kernel_rfl) (fun k xs => by kernel_rfl)
def S212 (k : Nat) (a : Y0_25) (b : Int) : Option Y0_14 :=
 (bif decide (b ≥ 0) then
  some ((decide (b < (a.length : Int)), ()), ())
 else
  some ((false, ()), ()))
def F212 : Fn := ⟨[.val ⟨false, Y0_68, false⟩, .val ⟨false, (.int .i64), false⟩], [.val ⟨false, .bool, true⟩], fun k x => S212 k x.1 x.2.1⟩
theorem ok212 : FnOK Tryz.prog 212 F212 := okF [] [] (fun k => .nil) trivial Tryz.func212 rfl
def S195 (k : Nat) (a : Y0_25) (b c : Int) : Option Y0_14 :=
 (S212 k a b).bind fun q0 =>
 (bif q0.1.1 then
  (bif decide (c ≥ 0) then
   ix a b <|
   some (((rd a b (0, 0)).2 == (IntKind.i64.wrap (c + 1)), ()), ())
  else
   some ((false, ()), ()))
 else
  some ((false, ()), ()))
def F195 : Fn := ⟨[.val ⟨false, Y0_68, false⟩, .val ⟨false, (.int .i64), false⟩, .val ⟨false, (.int .i64), false⟩], [.val ⟨false, .bool, true⟩], fun k x => S195 k x.1 x.2.1 x.2.2.1⟩
theorem ok195 : FnOK Tryz.prog 195 F195 := okF [(212, F212)] [] (fun k => .nil) ⟨ok212, trivial⟩ Tryz.func195 rfl
abbrev c154_L3 : Cut := ⟨[0, 1, 5, 10, 11], [.cell Y0_68, cI, .own 114 Y0_16, cI, cI], [], 24, []⟩
def l154_3 (k : Nat) (g3 : Y0_21 → Int → Y0_21 → Int → Int → Option Y0_44) (a : Y0_25) (b : Int) (c : Y0_25) (e f : Int) : Option Y0_44 :=
 (bif decide (f < e) then
  (S195 k a f b).bind fun q1 =>
  (bif q1.1.1 then
   ix c f <|
   g3 a b (upd c f ((rd c f (0, 0)).1, 0)) e (IntKind.i64.wrap (f + 1))
  else
   g3 a b c e (IntKind.i64.wrap (f + 1)))
 else
  some ((c, ()), ()))
def b154_3 (k : Nat) (g : ((Unit) × Y0_21 × Int × Y0_21 × Int × Int × Unit) → Option Y0_44) (d : (Unit) × Y0_21 × Int × Y0_21 × Int × Int × Unit) : Option Y0_44 := l154_3 k (fun a b c e f => g ((), a, b, c, e, f, ())) d.2.1 d.2.2.1 d.2.2.2.1 d.2.2.2.2.1 d.2.2.2.2.2.1
def L154_3 (k a : Nat) (b : Y0_25) (c : Int) (e : Y0_25) (f h : Int) : Option Y0_44 := iter (R := (Y0_21 × Unit) × Unit) c154_L3 (b154_3 k) a ((), b, c, e, f, h, ())
theorem L154_3_s (k a b c e f h) : L154_3 k (a + 1) b c e f h = l154_3 k (L154_3 k a) b c e f h := iter_succ _ _ _ _
def S154 (k : Nat) (a : Y0_25) (b : Int) : Option Y0_44 :=
 (S194 k a).bind fun q0 =>
 L154_3 k k a b q0.1.1 (q0.1.1.length : Int) 0
def F154 : Fn := ⟨[.val ⟨false, Y0_68, false⟩, .val ⟨false, (.int .i64), false⟩], [.val ⟨false, Y0_68, true⟩], fun k x => S154 k x.1 x.2.1⟩
theorem ok154 : FnOK Tryz.prog 154 F154 := okF [(194, F194), (195, F195)] [] (fun k => (.loop 3 c154_L3 (b154_3 k) (fun g => .nil) .nil)) ⟨ok194, ok195, trivial⟩ Tryz.func154 rfl
abbrev c39a_L1 : Cut := ⟨[0, 1, 11, 12, 13], [.pin false 0, .cell Y0_68, .own 3 (.int .i64), cI, cI], [.mbox 150 [cI, cI, .own 77 Y0_4, .own 96 Y0_33, .cell .bool, .cell .bool, .cell .bool, .cell (.sl 94 Y0_2), .own 3 (.int .i64), .own 4 .bool, .own 124 Y0_5, .own 3 (.int .i64), .own 4 .bool, .own 82 Y0_54]], 55, []⟩
def l39a_1 (k : Nat) (g1 : Int → Int → (List Y0_0) → Y0_37 → Bool → Bool → Bool → (List Y0_1) → (List Int) → (List Bool) → (List Y0_3) → (List Int) → (List Bool) → (List (PN Int 6)) → Y0_21 → (List Int) → Int → Int → Option Y0_30) (a b : Int) (c : List Y0_0) (e : List (PN Int 5)) (f h i : Bool) (l : List Y0_1) (m : List Int) (n : List Bool) (o : List Y0_3) (p : List Int) (s : List Bool) (t : List (PN Int 6)) (u : Y0_25) (v : List Int) (w y : Int) : Option Y0_30 :=
 (bif decide (y < w) then
  ix v y <|
  ix o (rd v y 0) <|
  (bif decide (y < (u.length : Int)) then
   ix u y <|
   (bif !(beqD Y0_16 (rd o (rd v y 0) (0, (0, 0), (0, 0), ([], []), (0, []), 0)).2.2.1 (rd u y (0, 0))) then
    ix u y <|
    (S82 k ((m, n), o) (rd v y 0) ((rd o (rd v y 0) (0, (0, 0), (0, 0), ([], []), (0, []), 0)).1, (rd o (rd v y 0) (0, (0, 0), (0, 0), ([], []), (0, []), 0)).2.1, rd u y (0, 0), (rd o (rd v y 0) (0, (0, 0), (0, 0), ([], []), (0, []), 0)).2.2.2)).bind fun q1 =>
    g1 a b c e f h i l q1.1.1.1.1 q1.1.1.1.2 q1.1.1.2 p s t u v w (IntKind.i64.wrap (y + 1))
   else
    g1 a b c e f h i l m n o p s t u v w (IntKind.i64.wrap (y + 1)))
  else
   g1 a b c e f h i l m n o p s t u v w (IntKind.i64.wrap (y + 1)))
 else
  some ((), (a, b, c, e, f, h, i, l, m, n, o, p, s, t, ()), ()))
def b39a_1 (k : Nat) (g : ((Y0_6 × Unit) × Unit × Y0_21 × (List Int) × Int × Int × Unit) → Option Y0_30) (d : (Y0_6 × Unit) × Unit × Y0_21 × (List Int) × Int × Int × Unit) : Option Y0_30 := l39a_1 k (fun a b c e f h i l m n o p s t u v w y => g (((a, b, c, e, f, h, i, l, m, n, o, p, s, t, ()), ()), (), u, v, w, y, ())) d.1.1.1 d.1.1.2.1 d.1.1.2.2.1 d.1.1.2.2.2.1 d.1.1.2.2.2.2.1 d.1.1.2.2.2.2.2.1 d.1.1.2.2.2.2.2.2.1 d.1.1.2.2.2.2.2.2.2.1 d.1.1.2.2.2.2.2.2.2.2.1 d.1.1.2.2.2.2.2.2.2.2.2.1 d.1.1.2.2.2.2.2.2.2.2.2.2.1 d.1.1.2.2.2.2.2.2.2.2.2.2.2.1 d.1.1.2.2.2.2.2.2.2.2.2.2.2.2.1 d.1.1.2.2.2.2.2.2.2.2.2.2.2.2.2.1 d.2.2.1 d.2.2.2.1 d.2.2.2.2.1 d.2.2.2.2.2.1
def L39a_1 (k a : Nat) (b c : Int) (e : List Y0_0) (f : List (PN Int 5)) (h i l : Bool) (m : List Y0_1) (n : List Int) (o : List Bool) (p : List Y0_3) (s : List Int) (t : List Bool) (u : List (PN Int 6)) (v : Y0_25) (w : List Int) (y z : Int) : Option Y0_30 := iter (R := (Unit) × Y0_6 × Unit) c39a_L1 (b39a_1 k) a (((b, c, e, f, h, i, l, m, n, o, p, s, t, u, ()), ()), (), v, w, y, z, ())
theorem L39a_1_s (k a b c e f h i l m n o p s t u v w y z) : L39a_1 k (a + 1) b c e f h i l m n o p s t u v w y z = l39a_1 k (L39a_1 k a) b c e f h i l m n o p s t u v w y z := iter_succ _ _ _ _
def S39a (k : Nat) (a b : Int) (c : List Y0_0) (e : List (PN Int 5)) (f h i : Bool) (l : List Y0_1) (m : List Int) (n : List Bool) (o : List Y0_3) (p : List Int) (s : List Bool) (t : List (PN Int 6)) (u : Y0_25) : Option Y0_30 :=
 (S73 k ((m, n), o)).bind fun q0 =>
 L39a_1 k k a b c e f h i l m n o p s t u q0.1.1 (q0.1.1.length : Int) 0
def F39a : Fn := ⟨[.mbox 150 [cI, cI, .own 77 Y0_4, .own 96 Y0_33, .cell .bool, .cell .bool, .cell .bool, .cell (.sl 94 Y0_2), .own 3 (.int .i64), .own 4 .bool, .own 124 Y0_5, .own 3 (.int .i64), .own 4 .bool, .own 82 Y0_54], .val ⟨false, Y0_68, false⟩], [], fun k x => S39a k x.1.1 x.1.2.1 x.1.2.2.1 x.1.2.2.2.1 x.1.2.2.2.2.1 x.1.2.2.2.2.2.1 x.1.2.2.2.2.2.2.1 x.1.2.2.2.2.2.2.2.1 x.1.2.2.2.2.2.2.2.2.1 x.1.2.2.2.2.2.2.2.2.2.1 x.1.2.2.2.2.2.2.2.2.2.2.1 x.1.2.2.2.2.2.2.2.2.2.2.2.1 x.1.2.2.2.2.2.2.2.2.2.2.2.2.1 x.1.2.2.2.2.2.2.2.2.2.2.2.2.2.1 x.2.1⟩
theorem ok39a : FnOK Tryz.prog 39 F39a := okF [(73, F73), (82, F82)] [] (fun k => (.loop 1 c39a_L1 (b39a_1 k) (fun g => .nil) .nil)) ⟨ok73, ok82, trivial⟩ Tryz.func39 rfl
def S196 (k : Nat) (a : (List Int) × List Bool) (b : Int) : Option Y0_14 :=
 (bif decide (b ≥ 0) then
  some ((decide (b < (mn (a.1.length : Int) (a.2.length : Int))), ()), ())
 else
  some ((false, ()), ()))
def F196 : Fn := ⟨[.val ⟨true, Y0_32, false⟩, .val ⟨false, (.int .i64), false⟩], [.val ⟨false, .bool, true⟩], fun k x => S196 k x.1 x.2.1⟩
theorem ok196 : FnOK Tryz.prog 196 F196 := okF [] [] (fun k => .nil) trivial Tryz.func196 rfl
abbrev c223_L2 : Cut := ⟨[0, 1, 7, 8], [.cell (.sl 4 .bool), .cell .bool, cI, cI], [], 19, []⟩
def l223_2 (k : Nat) (g2 : (List Bool) → Bool → Int → Int → Option Y0_13) (a : List Bool) (b : Bool) (c e : Int) : Option Y0_13 :=
 (bif decide (e < c) then
  ix a e <|
  (bif b == (rd a e false) then
   some ((e, ()), ())
  else
   g2 a b c (IntKind.i64.wrap (e + 1)))
 else
  some (((-1), ()), ()))
def b223_2 (k : Nat) (g : ((Unit) × (List Bool) × Bool × Int × Int × Unit) → Option Y0_13) (d : (Unit) × (List Bool) × Bool × Int × Int × Unit) : Option Y0_13 := l223_2 k (fun a b c e => g ((), a, b, c, e, ())) d.2.1 d.2.2.1 d.2.2.2.1 d.2.2.2.2.1
def L223_2 (k a : Nat) (b : List Bool) (c : Bool) (e f : Int) : Option Y0_13 := iter (R := Y0_61 × Unit) c223_L2 (b223_2 k) a ((), b, c, e, f, ())
theorem L223_2_s (k a b c e f) : L223_2 k (a + 1) b c e f = l223_2 k (L223_2 k a) b c e f := iter_succ _ _ _ _
def S223 (k : Nat) (a : List Bool) (b : Bool) : Option Y0_13 :=
 L223_2 k k a b (a.length : Int) 0
def F223 : Fn := ⟨[.val ⟨false, (.sl 4 .bool), false⟩, .val ⟨false, .bool, false⟩], [.val ⟨false, (.int .i64), true⟩], fun k x => S223 k x.1 x.2.1⟩
theorem ok223 : FnOK Tryz.prog 223 F223 := okF [] [] (fun k => (.loop 2 c223_L2 (b223_2 k) (fun g => .nil) .nil)) trivial Tryz.func223 rfl
def S197 (k : Nat) (a : List Bool) (b : Bool) : Option Y0_14 :=
 (S223 k a b).bind fun q0 =>
 some ((decide (q0.1.1 ≥ 0), ()), ())
def F197 : Fn := ⟨[.val ⟨false, (.sl 4 .bool), false⟩, .val ⟨false, .bool, false⟩], [.val ⟨false, .bool, true⟩], fun k x => S197 k x.1 x.2.1⟩
theorem ok197 : FnOK Tryz.prog 197 F197 := okF [(223, F223)] [] (fun k => .nil) ⟨ok223, trivial⟩ Tryz.func197 rfl
def S155 (k : Nat) (a : (List Int) × List Bool) (b : Int) : Option ((Y0_58 × Bool × Bool × Unit) × Unit) :=
 (S147 k a).bind fun q0 =>
 (S196 k a b).bind fun q1 =>
 (bif !q1.1.1 then
  some ((q0.1.1, false, false, ()), ())
 else
  ix q0.1.1.1 b <|
  ix q0.1.1.1 b <|
  ix (upd q0.1.1.1 b (IntKind.i64.wrap ((rd q0.1.1.1 b 0) + 1))) b <|
  (bif (rd (upd q0.1.1.1 b (IntKind.i64.wrap ((rd q0.1.1.1 b 0) + 1))) b 0) != 2 then
   some (((upd q0.1.1.1 b (IntKind.i64.wrap ((rd q0.1.1.1 b 0) + 1)), q0.1.1.2), false, false, ()), ())
  else
   ix q0.1.1.2 b <|
   (bif rd q0.1.1.2 b false then
    some (((upd q0.1.1.1 b (IntKind.i64.wrap ((rd q0.1.1.1 b 0) + 1)), q0.1.1.2), false, false, ()), ())
   else
    ix q0.1.1.2 b <|
    (S197 k (upd q0.1.1.2 b true) false).bind fun q2 =>
    some (((upd q0.1.1.1 b (IntKind.i64.wrap ((rd q0.1.1.1 b 0) + 1)), upd q0.1.1.2 b true), true, !q2.1.1, ()), ()))))
def F155 : Fn := ⟨[.val ⟨true, Y0_32, false⟩, .val ⟨false, (.int .i64), false⟩], [.val ⟨true, Y0_32, true⟩, .val ⟨false, .bool, true⟩, .val ⟨false, .bool, true⟩], fun k x => S155 k x.1 x.2.1⟩
theorem ok155 : FnOK Tryz.prog 155 F155 := okF [(147, F147), (196, F196), (197, F197)] [] (fun k => .nil) ⟨ok147, ok196, ok197, trivial⟩ Tryz.func155 rfl
abbrev c101_J7 : Cut := ⟨[0, 6], [.pin false 0, .cell .bool], [.mbox 150 [cI, cI, .own 77 Y0_4, .own 96 Y0_33, .cell .bool, .cell .bool, .cell .bool, .cell (.sl 94 Y0_2), .own 3 (.int .i64), .own 4 .bool, .own 124 Y0_5, .own 3 (.int .i64), .own 4 .bool, .own 82 Y0_54]], 55, []⟩
def j101_7 (k : Nat) (a b : Int) (c : List Y0_0) (e : List (PN Int 5)) (f h i : Bool) (l : List Y0_1) (m : List Int) (n : List Bool) (o : List Y0_3) (p : List Int) (s : List Bool) (t : List (PN Int 6)) (u : Bool) : Option Y0_30 :=
 (bif u then
  (S100 k a b c e f h i l m n o p s t (0, 10, 0, 0, 0, 0)).bind fun q6 =>
  some ((), (q6.2.1.1, q6.2.1.2.1, q6.2.1.2.2.1, q6.2.1.2.2.2.1, q6.2.1.2.2.2.2.1, true, q6.2.1.2.2.2.2.2.2.1, q6.2.1.2.2.2.2.2.2.2.1, q6.2.1.2.2.2.2.2.2.2.2.1, q6.2.1.2.2.2.2.2.2.2.2.2.1, q6.2.1.2.2.2.2.2.2.2.2.2.2.1, q6.2.1.2.2.2.2.2.2.2.2.2.2.2.1, q6.2.1.2.2.2.2.2.2.2.2.2.2.2.2.1, q6.2.1.2.2.2.2.2.2.2.2.2.2.2.2.2.1, ()), ())
 else
  some ((), (a, b, c, e, f, h, i, l, m, n, o, p, s, t, ()), ()))
def S101 (k : Nat) (a b : Int) (c : List Y0_0) (e : List (PN Int 5)) (f h i : Bool) (l : List Y0_1) (m : List Int) (n : List Bool) (o : List Y0_3) (p : List Int) (s : List Bool) (t : List (PN Int 6)) (u : Y0_34) : Option Y0_30 :=
 (S100 k a b c e f h i l m n o p s t (0, 5, u.1, 0, 0, 0)).bind fun q0 =>
 (S30 k (q0.2.1.1, q0.2.1.2.1, q0.2.1.2.2.1, q0.2.1.2.2.2.1, q0.2.1.2.2.2.2.1, q0.2.1.2.2.2.2.2.1, q0.2.1.2.2.2.2.2.2.1, q0.2.1.2.2.2.2.2.2.2.1, ((q0.2.1.2.2.2.2.2.2.2.2.1, q0.2.1.2.2.2.2.2.2.2.2.2.1), q0.2.1.2.2.2.2.2.2.2.2.2.2.1), q0.2.1.2.2.2.2.2.2.2.2.2.2.2.1, q0.2.1.2.2.2.2.2.2.2.2.2.2.2.2.1)).bind fun q1 =>
 (S154 k q1.1.1 u.1).bind fun q2 =>
 (S39a k q0.2.1.1 q0.2.1.2.1 q0.2.1.2.2.1 q0.2.1.2.2.2.1 q0.2.1.2.2.2.2.1 q0.2.1.2.2.2.2.2.1 q0.2.1.2.2.2.2.2.2.1 q0.2.1.2.2.2.2.2.2.2.1 q0.2.1.2.2.2.2.2.2.2.2.1 q0.2.1.2.2.2.2.2.2.2.2.2.1 q0.2.1.2.2.2.2.2.2.2.2.2.2.1 q0.2.1.2.2.2.2.2.2.2.2.2.2.2.1 q0.2.1.2.2.2.2.2.2.2.2.2.2.2.2.1 q0.2.1.2.2.2.2.2.2.2.2.2.2.2.2.2.1 q2.1.1).bind fun q3 =>
 (S155 k (q3.2.1.2.2.2.2.2.2.2.2.2.2.2.1, q3.2.1.2.2.2.2.2.2.2.2.2.2.2.2.1) u.1).bind fun q4 =>
 (bif q4.1.2.1 then
  (S100 k q3.2.1.1 q3.2.1.2.1 q3.2.1.2.2.1 q3.2.1.2.2.2.1 q3.2.1.2.2.2.2.1 q3.2.1.2.2.2.2.2.1 q3.2.1.2.2.2.2.2.2.1 q3.2.1.2.2.2.2.2.2.2.1 q3.2.1.2.2.2.2.2.2.2.2.1 q3.2.1.2.2.2.2.2.2.2.2.2.1 q3.2.1.2.2.2.2.2.2.2.2.2.2.1 q4.1.1.1 q4.1.1.2 q3.2.1.2.2.2.2.2.2.2.2.2.2.2.2.2.1 (0, 9, u.1, 0, 0, 0)).bind fun q5 =>
  j101_7 k q5.2.1.1 q5.2.1.2.1 q5.2.1.2.2.1 q5.2.1.2.2.2.1 q5.2.1.2.2.2.2.1 q5.2.1.2.2.2.2.2.1 q5.2.1.2.2.2.2.2.2.1 q5.2.1.2.2.2.2.2.2.2.1 q5.2.1.2.2.2.2.2.2.2.2.1 q5.2.1.2.2.2.2.2.2.2.2.2.1 q5.2.1.2.2.2.2.2.2.2.2.2.2.1 q5.2.1.2.2.2.2.2.2.2.2.2.2.2.1 q5.2.1.2.2.2.2.2.2.2.2.2.2.2.2.1 q5.2.1.2.2.2.2.2.2.2.2.2.2.2.2.2.1 q4.1.2.2.1
 else
  j101_7 k q3.2.1.1 q3.2.1.2.1 q3.2.1.2.2.1 q3.2.1.2.2.2.1 q3.2.1.2.2.2.2.1 q3.2.1.2.2.2.2.2.1 q3.2.1.2.2.2.2.2.2.1 q3.2.1.2.2.2.2.2.2.2.1 q3.2.1.2.2.2.2.2.2.2.2.1 q3.2.1.2.2.2.2.2.2.2.2.2.1 q3.2.1.2.2.2.2.2.2.2.2.2.2.1 q4.1.1.1 q4.1.1.2 q3.2.1.2.2.2.2.2.2.2.2.2.2.2.2.2.1 q4.1.2.2.1)
def F101 : Fn := ⟨[.mbox 150 [cI, cI, .own 77 Y0_4, .own 96 Y0_33, .cell .bool, .cell .bool, .cell .bool, .cell (.sl 94 Y0_2), .own 3 (.int .i64), .own 4 .bool, .own 124 Y0_5, .own 3 (.int .i64), .own 4 .bool, .own 82 Y0_54], .val ⟨true, Y0_2, false⟩], [], fun k x => S101 k x.1.1 x.1.2.1 x.1.2.2.1 x.1.2.2.2.1 x.1.2.2.2.2.1 x.1.2.2.2.2.2.1 x.1.2.2.2.2.2.2.1 x.1.2.2.2.2.2.2.2.1 x.1.2.2.2.2.2.2.2.2.1 x.1.2.2.2.2.2.2.2.2.2.1 x.1.2.2.2.2.2.2.2.2.2.2.1 x.1.2.2.2.2.2.2.2.2.2.2.2.1 x.1.2.2.2.2.2.2.2.2.2.2.2.2.1 x.1.2.2.2.2.2.2.2.2.2.2.2.2.2.1 x.2.1⟩
theorem ok101 : FnOK Tryz.prog 101 F101 := okF [(30, F30), (39, F39a), (100, F100), (154, F154), (155, F155)] [] (fun k => (.join 7 c101_J7 (fun d => j101_7 k d.1.1.1 d.1.1.2.1 d.1.1.2.2.1 d.1.1.2.2.2.1 d.1.1.2.2.2.2.1 d.1.1.2.2.2.2.2.1 d.1.1.2.2.2.2.2.2.1 d.1.1.2.2.2.2.2.2.2.1 d.1.1.2.2.2.2.2.2.2.2.1 d.1.1.2.2.2.2.2.2.2.2.2.1 d.1.1.2.2.2.2.2.2.2.2.2.2.1 d.1.1.2.2.2.2.2.2.2.2.2.2.2.1 d.1.1.2.2.2.2.2.2.2.2.2.2.2.2.1 d.1.1.2.2.2.2.2.2.2.2.2.2.2.2.2.1 d.2.2.1) .nil)) ⟨ok30, ok39a, ok100, ok154, ok155, trivial⟩ Tryz.func101 rfl
abbrev c56_L2 : Cut := ⟨[0, 2, 9, 10, 11], [.pin false 0, .own 94 Y0_2, .cell (.sl 94 Y0_2), cI, cI], [.mbox 150 [cI, cI, .own 77 Y0_4, .own 96 Y0_33, .cell .bool, .cell .bool, .cell .bool, .cell (.sl 94 Y0_2), .own 3 (.int .i64), .own 4 .bool, .own 124 Y0_5, .own 3 (.int .i64), .own 4 .bool, .own 82 Y0_54]], 57, []⟩
def l56_2 (k : Nat) (g2 : Int → Int → (List Y0_0) → Y0_37 → Bool → Bool → Bool → (List Y0_1) → (List Int) → (List Bool) → (List Y0_3) → (List Int) → (List Bool) → (List (PN Int 6)) → (List Y0_1) → (List Y0_1) → Int → Int → Option Y0_30) (a b : Int) (c : List Y0_0) (e : List (PN Int 5)) (f h i : Bool) (l : List Y0_1) (m : List Int) (n : List Bool) (o : List Y0_3) (p : List Int) (s : List Bool) (t : List (PN Int 6)) (u v : List Y0_1) (w y : Int) : Option Y0_30 :=
 (bif decide (y < w) then
  ix v y <|
  ix c (rd v y (0, 0, 0, 0, (0, prep (α := Int) 8 0, [], false), (0, prep (α := Int) 8 0, [], false), [], false)).1 <|
  (bif (IntKind.i64.wrap (a - (rd v y (0, 0, 0, 0, (0, prep (α := Int) 8 0, [], false), (0, prep (α := Int) 8 0, [], false), [], false)).2.1)) != (rd c (rd v y (0, 0, 0, 0, (0, prep (α := Int) 8 0, [], false), (0, prep (α := Int) 8 0, [], false), [], false)).1 (0, 0, 0, [], [], [])).2.2.1 then
   ap u ([rd v y (0, 0, 0, 0, (0, prep (α := Int) 8 0, [], false), (0, prep (α := Int) 8 0, [], false), [], false)] : List Y0_1) 272 fun r0 =>
   g2 a b c e f h i l m n o p s t r0 v w (IntKind.i64.wrap (y + 1))
  else
   (bif (rd v y (0, 0, 0, 0, (0, prep (α := Int) 8 0, [], false), (0, prep (α := Int) 8 0, [], false), [], false)).2.2.2.1 == 2 then
    (S100 k a b c e f h i l m n o p s t (0, 13, (rd v y (0, 0, 0, 0, (0, prep (α := Int) 8 0, [], false), (0, prep (α := Int) 8 0, [], false), [], false)).1, 0, 0, 0)).bind fun q1 =>
    g2 q1.2.1.1 q1.2.1.2.1 q1.2.1.2.2.1 q1.2.1.2.2.2.1 q1.2.1.2.2.2.2.1 q1.2.1.2.2.2.2.2.1 q1.2.1.2.2.2.2.2.2.1 q1.2.1.2.2.2.2.2.2.2.1 q1.2.1.2.2.2.2.2.2.2.2.1 q1.2.1.2.2.2.2.2.2.2.2.2.1 q1.2.1.2.2.2.2.2.2.2.2.2.2.1 q1.2.1.2.2.2.2.2.2.2.2.2.2.2.1 q1.2.1.2.2.2.2.2.2.2.2.2.2.2.2.1 q1.2.1.2.2.2.2.2.2.2.2.2.2.2.2.2.1 u v w (IntKind.i64.wrap (y + 1))
   else
    (S101 k a b c e f h i l m n o p s t (rd v y (0, 0, 0, 0, (0, prep (α := Int) 8 0, [], false), (0, prep (α := Int) 8 0, [], false), [], false))).bind fun q2 =>
    g2 q2.2.1.1 q2.2.1.2.1 q2.2.1.2.2.1 q2.2.1.2.2.2.1 q2.2.1.2.2.2.2.1 q2.2.1.2.2.2.2.2.1 q2.2.1.2.2.2.2.2.2.1 q2.2.1.2.2.2.2.2.2.2.1 q2.2.1.2.2.2.2.2.2.2.2.1 q2.2.1.2.2.2.2.2.2.2.2.2.1 q2.2.1.2.2.2.2.2.2.2.2.2.2.1 q2.2.1.2.2.2.2.2.2.2.2.2.2.2.1 q2.2.1.2.2.2.2.2.2.2.2.2.2.2.2.1 q2.2.1.2.2.2.2.2.2.2.2.2.2.2.2.2.1 u v w (IntKind.i64.wrap (y + 1))))
 else
  some ((), (a, b, c, e, f, h, i, u, m, n, o, p, s, t, ()), ()))
def b56_2 (k : Nat) (g : ((Y0_6 × Unit) × Unit × (List Y0_1) × (List Y0_1) × Int × Int × Unit) → Option Y0_30) (d : (Y0_6 × Unit) × Unit × (List Y0_1) × (List Y0_1) × Int × Int × Unit) : Option Y0_30 := l56_2 k (fun a b c e f h i l m n o p s t u v w y => g (((a, b, c, e, f, h, i, l, m, n, o, p, s, t, ()), ()), (), u, v, w, y, ())) d.1.1.1 d.1.1.2.1 d.1.1.2.2.1 d.1.1.2.2.2.1 d.1.1.2.2.2.2.1 d.1.1.2.2.2.2.2.1 d.1.1.2.2.2.2.2.2.1 d.1.1.2.2.2.2.2.2.2.1 d.1.1.2.2.2.2.2.2.2.2.1 d.1.1.2.2.2.2.2.2.2.2.2.1 d.1.1.2.2.2.2.2.2.2.2.2.2.1 d.1.1.2.2.2.2.2.2.2.2.2.2.2.1 d.1.1.2.2.2.2.2.2.2.2.2.2.2.2.1 d.1.1.2.2.2.2.2.2.2.2.2.2.2.2.2.1 d.2.2.1 d.2.2.2.1 d.2.2.2.2.1 d.2.2.2.2.2.1
def L56_2 (k a : Nat) (b c : Int) (e : List Y0_0) (f : List (PN Int 5)) (h i l : Bool) (m : List Y0_1) (n : List Int) (o : List Bool) (p : List Y0_3) (s : List Int) (t : List Bool) (u : List (PN Int 6)) (v w : List Y0_1) (y z : Int) : Option Y0_30 := iter (R := (Unit) × Y0_6 × Unit) c56_L2 (b56_2 k) a (((b, c, e, f, h, i, l, m, n, o, p, s, t, u, ()), ()), (), v, w, y, z, ())
theorem L56_2_s (k a b c e f h i l m n o p s t u v w y z) : L56_2 k (a + 1) b c e f h i l m n o p s t u v w y z = l56_2 k (L56_2 k a) b c e f h i l m n o p s t u v w y z := iter_succ _ _ _ _
def S56 (k : Nat) (a b : Int) (c : List Y0_0) (e : List (PN Int 5)) (f h i : Bool) (l : List Y0_1) (m : List Int) (n : List Bool) (o : List Y0_3) (p : List Int) (s : List Bool) (t : List (PN Int 6)) : Option Y0_30 :=
 L56_2 k k a b c e f h i l m n o p s t ([] : List Y0_1) l (l.length : Int) 0
def F56 : Fn := ⟨[.mbox 150 [cI, cI, .own 77 Y0_4, .own 96 Y0_33, .cell .bool, .cell .bool, .cell .bool, .own 94 Y0_2, .own 3 (.int .i64), .own 4 .bool, .own 124 Y0_5, .own 3 (.int .i64), .own 4 .bool, .own 82 Y0_54]], [], fun k x => S56 k x.1.1 x.1.2.1 x.1.2.2.1 x.1.2.2.2.1 x.1.2.2.2.2.1 x.1.2.2.2.2.2.1 x.1.2.2.2.2.2.2.1 x.1.2.2.2.2.2.2.2.1 x.1.2.2.2.2.2.2.2.2.1 x.1.2.2.2.2.2.2.2.2.2.1 x.1.2.2.2.2.2.2.2.2.2.2.1 x.1.2.2.2.2.2.2.2.2.2.2.2.1 x.1.2.2.2.2.2.2.2.2.2.2.2.2.1 x.1.2.2.2.2.2.2.2.2.2.2.2.2.2.1⟩
theorem ok56 : FnOK Tryz.prog 56 F56 := okF [(100, F100), (101, F101)] [(2, 2)] (fun k => (.loop 2 c56_L2 (b56_2 k) (fun g => .nil) .nil)) ⟨ok100, ok101, trivial⟩ Tryz.func56 rfl
abbrev c57_L1 : Cut := ⟨[0, 9, 10], [.pin false 0, cI, cI], [.mbox 150 [cI, cI, .own 77 Y0_4, .own 96 Y0_33, .cell .bool, .cell .bool, .cell .bool, .own 94 Y0_2, .own 3 (.int .i64), .own 4 .bool, .own 124 Y0_5, .own 3 (.int .i64), .own 4 .bool, .own 82 Y0_54]], 48, [(8, 3)]⟩
def l57_1 (k : Nat) (g1 : Int → Int → (List Y0_0) → Y0_37 → Bool → Bool → Bool → (List Y0_1) → (List Int) → (List Bool) → (List Y0_3) → (List Int) → (List Bool) → (List (PN Int 6)) → Int → Int → Option Y0_30) (a b : Int) (c : List Y0_0) (e : List (PN Int 5)) (f h i : Bool) (l : List Y0_1) (m : List Int) (n : List Bool) (o : List Y0_3) (p : List Int) (s : List Bool) (t : List (PN Int 6)) (u v : Int) : Option Y0_30 :=
 (bif decide (v < u) then
  ix l v <|
  (bif (rd l v (0, 0, 0, 0, (0, prep (α := Int) 8 0, [], false), (0, prep (α := Int) 8 0, [], false), [], false)).2.2.2.1 != 2 then
   ix e (rd l v (0, 0, 0, 0, (0, prep (α := Int) 8 0, [], false), (0, prep (α := Int) 8 0, [], false), [], false)).1 <|
   (bif decide ((IntKind.i64.wrap (a - (rd l v (0, 0, 0, 0, (0, prep (α := Int) 8 0, [], false), (0, prep (α := Int) 8 0, [], false), [], false)).2.1)) ≥ (rd e (rd l v (0, 0, 0, 0, (0, prep (α := Int) 8 0, [], false), (0, prep (α := Int) 8 0, [], false), [], false)).1 (prep (α := Int) 5 0)).2.2.2.2) then
    ix l v <|
    let r0 : List Y0_1 := upd l v ((rd l v (0, 0, 0, 0, (0, prep (α := Int) 8 0, [], false), (0, prep (α := Int) 8 0, [], false), [], false)).1, (rd l v (0, 0, 0, 0, (0, prep (α := Int) 8 0, [], false), (0, prep (α := Int) 8 0, [], false), [], false)).2.1, (rd l v (0, 0, 0, 0, (0, prep (α := Int) 8 0, [], false), (0, prep (α := Int) 8 0, [], false), [], false)).2.2.1, (rd l v (0, 0, 0, 0, (0, prep (α := Int) 8 0, [], false), (0, prep (α := Int) 8 0, [], false), [], false)).2.2.2.1, (rd l v (0, 0, 0, 0, (0, prep (α := Int) 8 0, [], false), (0, prep (α := Int) 8 0, [], false), [], false)).2.2.2.2.1, (rd l v (0, 0, 0, 0, (0, prep (α := Int) 8 0, [], false), (0, prep (α := Int) 8 0, [], false), [], false)).2.2.2.2.2.1, (rd l v (0, 0, 0, 0, (0, prep (α := Int) 8 0, [], false), (0, prep (α := Int) 8 0, [], false), [], false)).2.2.2.2.2.2.1, true)
    g1 a b c e f h i r0 m n o p s t u (IntKind.i64.wrap (v + 1))
   else
    g1 a b c e f h i l m n o p s t u (IntKind.i64.wrap (v + 1)))
  else
   g1 a b c e f h i l m n o p s t u (IntKind.i64.wrap (v + 1)))
 else
  some ((), (a, b, c, e, f, h, i, l, m, n, o, p, s, t, ()), ()))
def b57_1 (k : Nat) (g : ((Y0_6 × Unit) × Unit × Int × Int × Unit) → Option Y0_30) (d : (Y0_6 × Unit) × Unit × Int × Int × Unit) : Option Y0_30 := l57_1 k (fun a b c e f h i l m n o p s t u v => g (((a, b, c, e, f, h, i, l, m, n, o, p, s, t, ()), ()), (), u, v, ())) d.1.1.1 d.1.1.2.1 d.1.1.2.2.1 d.1.1.2.2.2.1 d.1.1.2.2.2.2.1 d.1.1.2.2.2.2.2.1 d.1.1.2.2.2.2.2.2.1 d.1.1.2.2.2.2.2.2.2.1 d.1.1.2.2.2.2.2.2.2.2.1 d.1.1.2.2.2.2.2.2.2.2.2.1 d.1.1.2.2.2.2.2.2.2.2.2.2.1 d.1.1.2.2.2.2.2.2.2.2.2.2.2.1 d.1.1.2.2.2.2.2.2.2.2.2.2.2.2.1 d.1.1.2.2.2.2.2.2.2.2.2.2.2.2.2.1 d.2.2.1 d.2.2.2.1
def L57_1 (k a : Nat) (b c : Int) (e : List Y0_0) (f : List (PN Int 5)) (h i l : Bool) (m : List Y0_1) (n : List Int) (o : List Bool) (p : List Y0_3) (s : List Int) (t : List Bool) (u : List (PN Int 6)) (v w : Int) : Option Y0_30 := iter (R := (Unit) × Y0_6 × Unit) c57_L1 (b57_1 k) a (((b, c, e, f, h, i, l, m, n, o, p, s, t, u, ()), ()), (), v, w, ())
theorem L57_1_s (k a b c e f h i l m n o p s t u v w) : L57_1 k (a + 1) b c e f h i l m n o p s t u v w = l57_1 k (L57_1 k a) b c e f h i l m n o p s t u v w := iter_succ _ _ _ _
def S57 (k : Nat) (a b : Int) (c : List Y0_0) (e : List (PN Int 5)) (f h i : Bool) (l : List Y0_1) (m : List Int) (n : List Bool) (o : List Y0_3) (p : List Int) (s : List Bool) (t : List (PN Int 6)) : Option Y0_30 :=
 L57_1 k k a b c e f h i l m n o p s t (l.length : Int) 0
def F57 : Fn := ⟨[.mbox 150 [cI, cI, .own 77 Y0_4, .own 96 Y0_33, .cell .bool, .cell .bool, .cell .bool, .own 94 Y0_2, .own 3 (.int .i64), .own 4 .bool, .own 124 Y0_5, .own 3 (.int .i64), .own 4 .bool, .own 82 Y0_54]], [], fun k x => S57 k x.1.1 x.1.2.1 x.1.2.2.1 x.1.2.2.2.1 x.1.2.2.2.2.1 x.1.2.2.2.2.2.1 x.1.2.2.2.2.2.2.1 x.1.2.2.2.2.2.2.2.1 x.1.2.2.2.2.2.2.2.2.1 x.1.2.2.2.2.2.2.2.2.2.1 x.1.2.2.2.2.2.2.2.2.2.2.1 x.1.2.2.2.2.2.2.2.2.2.2.2.1 x.1.2.2.2.2.2.2.2.2.2.2.2.2.1 x.1.2.2.2.2.2.2.2.2.2.2.2.2.2.1⟩
theorem ok57 : FnOK Tryz.prog 57 F57 := okF [] [] (fun k => (.loop 1 c57_L1 (b57_1 k) (fun g => .nil) .nil)) trivial Tryz.func57 rfl
def S156 (k : Nat) (a : Int) (b : Int × Int) : Option ((Y0_3 × Unit) × Unit) :=
 (bif a == 1 then
  some (((a, b, (8, 0), ([], []), (0, []), 0), ()), ())
 else
  some (((a, b, (0, 0), ([], []), (0, []), 0), ()), ()))
def F156 : Fn := ⟨[.val ⟨false, (.int .i64), false⟩, .val ⟨true, Y0_16, false⟩], [.val ⟨true, Y0_5, true⟩], fun k x => S156 k x.1 x.2.1⟩
theorem ok156 : FnOK Tryz.prog 156 F156 := okF [] [] (fun k => .nil) trivial Tryz.func156 rfl
def S198 (k : Nat) (a : (List Int) × List Int) : Option ((((List Int) × List Int) × (List Int) × Unit) × Unit) :=
 (S140 k a.2).bind fun q0 =>
 some ((([], []), q0.1.1, ()), ())
def F198 : Fn := ⟨[.val ⟨true, (.pair Y0_53 Y0_23), false⟩], [.val ⟨true, (.pair Y0_53 Y0_23), true⟩, .val ⟨false, Y0_23, true⟩], fun k x => S198 k x.1⟩
theorem ok198 : FnOK Tryz.prog 198 F198 := okF [(140, F140)] [] (fun k => .nil) ⟨ok140, trivial⟩ Tryz.func198 rfl
abbrev c199_L2 : Cut := ⟨[2, 3, 7, 8, 9], [.box 120 [.cell (.int .u32), .nil], .own 3 (.int .i64), .cell (.sl 297 Y0_42), cI, cI], [], 21, []⟩
def l199_2 (k : Nat) (g2 : Int → (List Int) → Y0_21 → Int → Int → Option Y0_39) (x : Int) (a : List Int) (b : Y0_25) (c e : Int) : Option Y0_39 :=
 (bif decide (e < c) then
  ix b e <|
  ap a ([(rd b e (0, 0)).1] : List Int) 8 fun r0 =>
  g2 x r0 b c (IntKind.i64.wrap (e + 1))
 else
  some (((x, []), a, ()), ()))
def b199_2 (k : Nat) (g : ((Unit) × (Int × Unit × Unit) × (List Int) × Y0_21 × Int × Int × Unit) → Option Y0_39) (d : (Unit) × (Int × Unit × Unit) × (List Int) × Y0_21 × Int × Int × Unit) : Option Y0_39 := l199_2 k (fun x a b c e => g ((), (x, (), ()), a, b, c, e, ())) d.2.1.1 d.2.2.1 d.2.2.2.1 d.2.2.2.2.1 d.2.2.2.2.2.1
def L199_2 (k a : Nat) (x : Int) (b : List Int) (c : Y0_25) (e f : Int) : Option Y0_39 := iter (R := ((Int × List (Int × Int)) × (List Int) × Unit) × Unit) c199_L2 (b199_2 k) a ((), (x, (), ()), b, c, e, f, ())
theorem L199_2_s (k a x b c e f) : L199_2 k (a + 1) x b c e f = l199_2 k (L199_2 k a) x b c e f := iter_succ _ _ _ _
def S199 (k : Nat) (a : Int × List (Int × Int)) : Option Y0_39 :=
 L199_2 k k 0 ([] : List Int) a.2 (a.2.length : Int) 0
def F199 : Fn := ⟨[.val ⟨true, (.pair (.int .u32) (.sl 297 Y0_42)), false⟩], [.val ⟨true, (.pair (.int .u32) (.sl 297 Y0_42)), true⟩, .val ⟨false, Y0_23, true⟩], fun k x => S199 k x.1⟩
theorem ok199 : FnOK Tryz.prog 199 F199 := okF [] [(3, 2)] (fun k => (.loop 2 c199_L2 (b199_2 k) (fun g => .nil) .nil)) trivial Tryz.func199 rfl
def S224 (k : Nat) (a : Int) : Option Y0_15 :=
 (bif decide (a < 0) then
  none
 else
  (bif decide ((IntKind.i64.wrap (a - 0)) > 0) then
   az ([] : List Int) (IntKind.i64.wrap (a - 0)) 8 0 fun r0 =>
   sx r0 0 0 <|
   some ((r0.take 0, ()), ())
  else
   some (([], ()), ())))
def F224 : Fn := ⟨[.pv (.nil), .val ⟨false, (.int .i64), false⟩], [.val ⟨false, Y0_23, true⟩], fun k x => S224 k x.2.1⟩
theorem ok224 : FnOK Tryz.prog 224 F224 := okF [] [(25, 1)] (fun k => .nil) trivial Tryz.func224 rfl
abbrev c200_L11 : Cut := ⟨[6, 25, 26, 27], [.own 3 (.int .i64), .cell (.sl 27 Y0_23), cI, cI], [], 36, []⟩
def l200_11 (k : Nat) (g11 : (List Int) → Y0_67 → Int → Int → Option Y0_15) (a : List Int) (b : List (List Int)) (c e : Int) : Option Y0_15 :=
 (bif decide (e < c) then
  ix b e <|
  ap a (rd b e []) 8 fun r1 =>
  g11 r1 b c (IntKind.i64.wrap (e + 1))
 else
  some ((a, ()), ()))
def b200_11 (k : Nat) (g : ((Unit) × (List Int) × Y0_67 × Int × Int × Unit) → Option Y0_15) (d : (Unit) × (List Int) × Y0_67 × Int × Int × Unit) : Option Y0_15 := l200_11 k (fun a b c e => g ((), a, b, c, e, ())) d.2.1 d.2.2.1 d.2.2.2.1 d.2.2.2.2.1
def L200_11 (k a : Nat) (b : List Int) (c : List (List Int)) (e f : Int) : Option Y0_15 := iter (R := Y0_70 × Unit) c200_L11 (b200_11 k) a ((), b, c, e, f, ())
theorem L200_11_s (k a b c e f) : L200_11 k (a + 1) b c e f = l200_11 k (L200_11 k a) b c e f := iter_succ _ _ _ _
abbrev c200_L3 : Cut := ⟨[0, 3, 9, 10, 11], [.cell (.sl 27 Y0_23), cI, .cell (.sl 27 Y0_23), cI, cI], [], 36, []⟩
def l200_3 (k : Nat) (g3 : Y0_67 → Int → Y0_67 → Int → Int → Option Y0_15) (a : List (List Int)) (b : Int) (c : List (List Int)) (e f : Int) : Option Y0_15 :=
 (bif decide (f < e) then
  ix c f <|
  (bif decide ((IntKind.i64.wrap (b + ((rd c f []).length : Int))) < 0) then
   none
  else
   g3 a (IntKind.i64.wrap (b + ((rd c f []).length : Int))) c e (IntKind.i64.wrap (f + 1)))
 else
  (S224 k b).bind fun q0 =>
  L200_11 k k q0.1.1 a (a.length : Int) 0)
def b200_3 (k : Nat) (g : ((Unit) × Y0_67 × Int × Y0_67 × Int × Int × Unit) → Option Y0_15) (d : (Unit) × Y0_67 × Int × Y0_67 × Int × Int × Unit) : Option Y0_15 := l200_3 k (fun a b c e f => g ((), a, b, c, e, f, ())) d.2.1 d.2.2.1 d.2.2.2.1 d.2.2.2.2.1 d.2.2.2.2.2.1
def L200_3 (k a : Nat) (b : List (List Int)) (c : Int) (e : List (List Int)) (f h : Int) : Option Y0_15 := iter (R := Y0_70 × Unit) c200_L3 (b200_3 k) a ((), b, c, e, f, h, ())
theorem L200_3_s (k a b c e f h) : L200_3 k (a + 1) b c e f h = l200_3 k (L200_3 k a) b c e f h := iter_succ _ _ _ _
def S200 (k : Nat) (a : List (List Int)) : Option Y0_15 :=
 L200_3 k k a 0 a (a.length : Int) 0
def F200 : Fn := ⟨[.val ⟨false, (.sl 27 Y0_23), false⟩], [.val ⟨false, Y0_23, true⟩], fun k x => S200 k x.1⟩
theorem ok200 : FnOK Tryz.prog 200 F200 := okF [(224, F224)] [] (fun k => (.loop 11 c200_L11 (b200_11 k) (fun g => .nil) (.loop 3 c200_L3 (b200_3 k) (fun g => .nil) .nil))) ⟨ok224, trivial⟩ Tryz.func200 rfl
def S157 (k : Nat) (x : Y0_31) : Option Y0_15 :=
 (S198 k x.2.2.2.1).bind fun q0 =>
 (S199 k x.2.2.2.2.1).bind fun q1 =>
 (S200 k ([q0.1.2.1, q1.1.2.1] : List (List Int))).bind fun q2 =>
 some ((q2.1.1, ()), ())
def F157 : Fn := ⟨[.val ⟨true, Y0_5, false⟩], [.val ⟨false, Y0_23, true⟩], fun k x => S157 k x.1⟩
theorem ok157 : FnOK Tryz.prog 157 F157 := okF [(198, F198), (199, F199), (200, F200)] [] (fun k => .nil) ⟨ok198, ok199, ok200, trivial⟩ Tryz.func157 rfl
abbrev c102_J9 : Cut := ⟨[1, 2, 3, 4, 5, 6, 7, 11, 12, 13], [.box 33 [.cell Y0_23, .cell (.sl 4 .bool), .cell (.sl 124 Y0_5)], .box 33 [.own 3 (.int .i64), .own 4 .bool, .own 124 Y0_5], .own 3 (.int .i64), .own 27 Y0_23, cI, .box 124 [cI, cI, cI, cI, cI, .cell Y0_53, .cell Y0_23, .cell (.int .u32), .cell (.sl 297 Y0_42), .cell (.int .u32)], .box 124 [cI, cI, cI, cI, cI, .own 2 (.int .i64), .own 3 (.int .i64), .cell (.int .u32), .own 297 Y0_42, .cell (.int .u32)], .cell (.sl 124 Y0_5), cI, cI], [], 61, []⟩
def j102_9 (k : Nat) (g3 : Y0_28) (a : List Int) (b : List Bool) (c : List Y0_3) (e : List Int) (f : List Bool) (h : List Y0_3) (i : List Int) (l : List (List Int)) (m x n o p s : Int) (t u : List Int) (v : Int) (w : Y0_25) (y z A B C D : Int) (G H : List Int) (I : Int) (J : Y0_25) (K : Int) (M : List Y0_3) (N O : Int) : Option Y0_40 :=
 (S144 k (z, (A, B), (C, D), (G, H), (I, J), K)).bind fun q4 =>
 ix h m <|
 ap i ([m] : List Int) 8 fun r5 =>
 (S157 k (x, (n, o), (p, s), (t, u), (v, w), y)).bind fun q6 =>
 ap l ([q6.1.1] : List (List Int)) 24 fun r7 =>
 g3 a b c e f (upd h m q4.1.1) r5 r7 M N (IntKind.i64.wrap (O + 1))
abbrev c102_L3 : Cut := ⟨[1, 2, 3, 4, 11, 12, 13], [.box 33 [.cell Y0_23, .cell (.sl 4 .bool), .cell (.sl 124 Y0_5)], .box 33 [.own 3 (.int .i64), .own 4 .bool, .own 124 Y0_5], .own 3 (.int .i64), .own 27 Y0_23, .cell (.sl 124 Y0_5), cI, cI], [], 61, []⟩
def l102_3 (k : Nat) (g3 : Y0_28) (a : List Int) (b : List Bool) (c : List Y0_3) (e : List Int) (f : List Bool) (h : List Y0_3) (i : List Int) (l : List (List Int)) (m : List Y0_3) (n o : Int) : Option Y0_40 :=
 (bif decide (o < n) then
  ix m o <|
  (S143 k ((a, b), c) o).bind fun q1 =>
  (bif !q1.1.1 then
   g3 a b c e f h i l m n (IntKind.i64.wrap (o + 1))
  else
   (S146 k (rd m o (0, (0, 0), (0, 0), ([], []), (0, []), 0))).bind fun q2 =>
   (bif (rd m o (0, (0, 0), (0, 0), ([], []), (0, []), 0)).2.2.2.2.2 == q2.1.1 then
    g3 a b c e f h i l m n (IntKind.i64.wrap (o + 1))
   else
    (S156 k (rd m o (0, (0, 0), (0, 0), ([], []), (0, []), 0)).1 (rd m o (0, (0, 0), (0, 0), ([], []), (0, []), 0)).2.1).bind fun q3 =>
    (bif (rd m o (0, (0, 0), (0, 0), ([], []), (0, []), 0)).1 == 1 then
     j102_9 k g3 a b c e f h i l o (rd m o (0, (0, 0), (0, 0), ([], []), (0, []), 0)).1 (rd m o (0, (0, 0), (0, 0), ([], []), (0, []), 0)).2.1.1 (rd m o (0, (0, 0), (0, 0), ([], []), (0, []), 0)).2.1.2 (rd m o (0, (0, 0), (0, 0), ([], []), (0, []), 0)).2.2.1.1 (rd m o (0, (0, 0), (0, 0), ([], []), (0, []), 0)).2.2.1.2 (rd m o (0, (0, 0), (0, 0), ([], []), (0, []), 0)).2.2.2.1.1 (rd m o (0, (0, 0), (0, 0), ([], []), (0, []), 0)).2.2.2.1.2 (rd m o (0, (0, 0), (0, 0), ([], []), (0, []), 0)).2.2.2.2.1.1 (rd m o (0, (0, 0), (0, 0), ([], []), (0, []), 0)).2.2.2.2.1.2 (rd m o (0, (0, 0), (0, 0), ([], []), (0, []), 0)).2.2.2.2.2 q3.1.1.1 q3.1.1.2.1.1 q3.1.1.2.1.2 (rd m o (0, (0, 0), (0, 0), ([], []), (0, []), 0)).2.2.1.1 q3.1.1.2.2.1.2 q3.1.1.2.2.2.1.1 q3.1.1.2.2.2.1.2 q3.1.1.2.2.2.2.1.1 q3.1.1.2.2.2.2.1.2 q3.1.1.2.2.2.2.2 m n o
    else
     j102_9 k g3 a b c e f h i l o (rd m o (0, (0, 0), (0, 0), ([], []), (0, []), 0)).1 (rd m o (0, (0, 0), (0, 0), ([], []), (0, []), 0)).2.1.1 (rd m o (0, (0, 0), (0, 0), ([], []), (0, []), 0)).2.1.2 (rd m o (0, (0, 0), (0, 0), ([], []), (0, []), 0)).2.2.1.1 (rd m o (0, (0, 0), (0, 0), ([], []), (0, []), 0)).2.2.1.2 (rd m o (0, (0, 0), (0, 0), ([], []), (0, []), 0)).2.2.2.1.1 (rd m o (0, (0, 0), (0, 0), ([], []), (0, []), 0)).2.2.2.1.2 (rd m o (0, (0, 0), (0, 0), ([], []), (0, []), 0)).2.2.2.2.1.1 (rd m o (0, (0, 0), (0, 0), ([], []), (0, []), 0)).2.2.2.2.1.2 (rd m o (0, (0, 0), (0, 0), ([], []), (0, []), 0)).2.2.2.2.2 q3.1.1.1 q3.1.1.2.1.1 q3.1.1.2.1.2 q3.1.1.2.2.1.1 q3.1.1.2.2.1.2 q3.1.1.2.2.2.1.1 q3.1.1.2.2.2.1.2 q3.1.1.2.2.2.2.1.1 q3.1.1.2.2.2.2.1.2 q3.1.1.2.2.2.2.2 m n o)))
 else
  some ((((e, f), h), i, l, ()), ()))
def b102_3 (k : Nat) (g : ((Unit) × Y0_50 × Y0_50 × (List Int) × Y0_67 × (List Y0_3) × Int × Int × Unit) → Option Y0_40) (d : (Unit) × Y0_50 × Y0_50 × (List Int) × Y0_67 × (List Y0_3) × Int × Int × Unit) : Option Y0_40 := l102_3 k (fun a b c e f h i l m n o => g ((), (a, b, c, ()), (e, f, h, ()), i, l, m, n, o, ())) d.2.1.1 d.2.1.2.1 d.2.1.2.2.1 d.2.2.1.1 d.2.2.1.2.1 d.2.2.1.2.2.1 d.2.2.2.1 d.2.2.2.2.1 d.2.2.2.2.2.1 d.2.2.2.2.2.2.1 d.2.2.2.2.2.2.2.1
def L102_3 (k a : Nat) (b : List Int) (c : List Bool) (e : List Y0_3) (f : List Int) (h : List Bool) (i : List Y0_3) (l : List Int) (m : List (List Int)) (n : List Y0_3) (o p : Int) : Option Y0_40 := iter (R := (Y0_18 × (List Int) × Y0_67 × Unit) × Unit) c102_L3 (b102_3 k) a ((), (b, c, e, ()), (f, h, i, ()), l, m, n, o, p, ())
theorem L102_3_s (k a b c e f h i l m n o p) : L102_3 k (a + 1) b c e f h i l m n o p = l102_3 k (L102_3 k a) b c e f h i l m n o p := iter_succ _ _ _ _
def S102 (k : Nat) (a : Y0_58 × List Y0_3) : Option Y0_40 :=
 (S142 k a).bind fun q0 =>
 L102_3 k k a.1.1 a.1.2 a.2 q0.1.1.1.1 q0.1.1.1.2 q0.1.1.2 ([] : List Int) ([] : List (List Int)) a.2 (a.2.length : Int) 0
def F102 : Fn := ⟨[.val ⟨true, Y0_56, false⟩], [.val ⟨true, Y0_56, true⟩, .val ⟨false, Y0_23, true⟩, .val ⟨false, (.sl 27 Y0_23), true⟩], fun k x => S102 k x.1⟩
theorem ok102 : FnOK Tryz.prog 102 F102 := okF [(142, F142), (143, F143), (144, F144), (146, F146), (156, F156), (157, F157)] [(3, 2), (4, 2)] (fun k => (.loop 3 c102_L3 (b102_3 k) (fun g => (fun (g3 : Y0_28) => (.join 9 c102_J9 (fun d => j102_9 k g3 d.2.1.1 d.2.1.2.1 d.2.1.2.2.1 d.2.2.1.1 d.2.2.1.2.1 d.2.2.1.2.2.1 d.2.2.2.1 d.2.2.2.2.1 d.2.2.2.2.2.1 d.2.2.2.2.2.2.1.1 d.2.2.2.2.2.2.1.2.1 d.2.2.2.2.2.2.1.2.2.1 d.2.2.2.2.2.2.1.2.2.2.1 d.2.2.2.2.2.2.1.2.2.2.2.1 d.2.2.2.2.2.2.1.2.2.2.2.2.1 d.2.2.2.2.2.2.1.2.2.2.2.2.2.1 d.2.2.2.2.2.2.1.2.2.2.2.2.2.2.1 d.2.2.2.2.2.2.1.2.2.2.2.2.2.2.2.1 d.2.2.2.2.2.2.1.2.2.2.2.2.2.2.2.2.1 d.2.2.2.2.2.2.2.1.1 d.2.2.2.2.2.2.2.1.2.1 d.2.2.2.2.2.2.2.1.2.2.1 d.2.2.2.2.2.2.2.1.2.2.2.1 d.2.2.2.2.2.2.2.1.2.2.2.2.1 d.2.2.2.2.2.2.2.1.2.2.2.2.2.1 d.2.2.2.2.2.2.2.1.2.2.2.2.2.2.1 d.2.2.2.2.2.2.2.1.2.2.2.2.2.2.2.1 d.2.2.2.2.2.2.2.1.2.2.2.2.2.2.2.2.1 d.2.2.2.2.2.2.2.1.2.2.2.2.2.2.2.2.2.1 d.2.2.2.2.2.2.2.2.1 d.2.2.2.2.2.2.2.2.2.1 d.2.2.2.2.2.2.2.2.2.2.1) .nil)) (fun t1 t2 t3 out out1 out2 places who t11 t12 t13 => g ((), (t1, t2, t3, ()), (out, out1, out2, ()), places, who, t11, t12, t13, ()))) .nil)) ⟨ok142, ok143, ok144, ok146, ok156, ok157, trivial⟩ Tryz.func102 rfl
def S100a (k : Nat) (a b : Int) (c : List Y0_0) (e : List (PN Int 5)) (f h i : Bool) (l : List Y0_1) (m : List Int) (n : List Bool) (o : List Y0_3) (p : List Int) (s : List Bool) (t : List (PN Int 6)) (u : PN Int 6) : Option Y0_30 :=
 ap t ([(a, u.2)] : List (PN Int 6)) 48 fun r0 =>
 some ((), (a, b, c, e, f, h, i, l, m, n, o, p, s, r0, ()), ())
def F100a : Fn := ⟨[.mbox 150 [cI, cI, .own 77 Y0_4, .own 96 Y0_33, .cell .bool, .cell .bool, .cell .bool, .own 94 Y0_2, .own 3 (.int .i64), .own 4 .bool, .own 124 Y0_5, .own 3 (.int .i64), .own 4 .bool, .own 82 Y0_54], .val ⟨true, Y0_54, false⟩], [], fun k x => S100a k x.1.1 x.1.2.1 x.1.2.2.1 x.1.2.2.2.1 x.1.2.2.2.2.1 x.1.2.2.2.2.2.1 x.1.2.2.2.2.2.2.1 x.1.2.2.2.2.2.2.2.1 x.1.2.2.2.2.2.2.2.2.1 x.1.2.2.2.2.2.2.2.2.2.1 x.1.2.2.2.2.2.2.2.2.2.2.1 x.1.2.2.2.2.2.2.2.2.2.2.2.1 x.1.2.2.2.2.2.2.2.2.2.2.2.2.1 x.1.2.2.2.2.2.2.2.2.2.2.2.2.2.1 x.2.1⟩
theorem ok100a : FnOK Tryz.prog 100 F100a := okF [] [] (fun k => .nil) trivial Tryz.func100 rfl
abbrev c103_L2 : Cut := ⟨[0, 1, 7, 8], [.cell Y0_23, cI, cI, cI], [], 19, []⟩
def l103_2 (k : Nat) (g2 : (List Int) → Int → Int → Int → Option Y0_13) (a : List Int) (b c e : Int) : Option Y0_13 :=
 (bif decide (e < c) then
  ix a e <|
  (bif b == (rd a e 0) then
   some ((e, ()), ())
  else
   g2 a b c (IntKind.i64.wrap (e + 1)))
 else
  some (((-1), ()), ()))
def b103_2 (k : Nat) (g : ((Unit) × (List Int) × Int × Int × Int × Unit) → Option Y0_13) (d : (Unit) × (List Int) × Int × Int × Int × Unit) : Option Y0_13 := l103_2 k (fun a b c e => g ((), a, b, c, e, ())) d.2.1 d.2.2.1 d.2.2.2.1 d.2.2.2.2.1
def L103_2 (k a : Nat) (b : List Int) (c e f : Int) : Option Y0_13 := iter (R := Y0_61 × Unit) c103_L2 (b103_2 k) a ((), b, c, e, f, ())
theorem L103_2_s (k a b c e f) : L103_2 k (a + 1) b c e f = l103_2 k (L103_2 k a) b c e f := iter_succ _ _ _ _
def S103 (k : Nat) (a : List Int) (b : Int) : Option Y0_13 :=
 L103_2 k k a b (a.length : Int) 0
def F103 : Fn := ⟨[.val ⟨false, Y0_23, false⟩, .val ⟨false, (.int .i64), false⟩], [.val ⟨false, (.int .i64), true⟩], fun k x => S103 k x.1 x.2.1⟩
theorem ok103 : FnOK Tryz.prog 103 F103 := okF [] [] (fun k => (.loop 2 c103_L2 (b103_2 k) (fun g => .nil) .nil)) trivial Tryz.func103 rfl
end
end Go.Proofs.YtmmagcjlfcicfaaGreat.Ab
