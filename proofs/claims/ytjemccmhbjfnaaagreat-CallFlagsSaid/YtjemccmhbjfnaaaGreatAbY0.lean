import Derived.Test.YtjemccmhbjfnaaaGreatPbI
import Derived.Lib.Overlaps
import Derived.Shelf.RegionOpenPlain
import Derived.Test.YtjemccmhbjfnaaaGreatPbC
/- Contracts, printed by this session's own program gen.py. -/
set_option linter.unusedVariables false
set_option linter.unusedSimpArgs false
set_option maxRecDepth 100000
namespace Go.Proofs.YtjemccmhbjfnaaaGreat.Ab
open Go.RowKit
abbrev cI : PV := .cell (.int .i64)
abbrev Y0_0 : Type := Int × Int × Int × (List (Int × Int × Int × Int)) × (List (Int × Int × Int × Int)) × List (Int × Int × Int × Int)
abbrev Y0_1 : Ty := .pair (.int .i64) (.pair (.int .i64) (.pair (.int .i64) (.pair (.sl 40 (.pair (.int .i64) (.pair (.int .i64) (.pair (.int .i64) (.int .i64))))) (.pair (.sl 40 (.pair (.int .i64) (.pair (.int .i64) (.pair (.int .i64) (.int .i64))))) (.sl 40 (.pair (.int .i64) (.pair (.int .i64) (.pair (.int .i64) (.int .i64)))))))))
abbrev Y0_2 : Ty := .pair (.int .i64) (.pair (.int .i64) (.pair (.int .i64) (.pair (.int .i64) (.pair (.pair (.int .i64) (.pair (arrT 8 (.int .i64)) (.pair (.sl 177 (.pair (.int .i64) (.pair (.int .i64) (.int .i64)))) .bool))) (.pair (.pair (.int .i64) (.pair (arrT 8 (.int .i64)) (.pair (.sl 177 (.pair (.int .i64) (.pair (.int .i64) (.int .i64)))) .bool))) (.pair (.sl 3 (.int .i64)) .bool))))))
abbrev Y0_3 : Type := Int × Int × Int × Int × (Int × (PN Int 8) × (List (Int × Int × Int)) × Bool) × (Int × (PN Int 8) × (List (Int × Int × Int)) × Bool) × (List Int) × Bool
abbrev Y0_4 : Type := Int × (Int × Int) × (Int × Int) × ((List Int) × List Int) × (Int × List (Int × Int)) × Int
abbrev Y0_5 : Ty := .pair (.int .i64) (.pair (.pair (.int .i64) (.int .i64)) (.pair (.pair (.int .i64) (.int .i64)) (.pair (.pair (.sl 2 (.int .i64)) (.sl 3 (.int .i64))) (.pair (.pair (.int .u32) (.sl 109 (.pair (.int .i64) (.int .u32)))) (.int .u32)))))
abbrev Y0_6 : Ty := .pair (.int .i64) (.pair (.int .i64) (.pair (.int .i64) (.int .i64)))
abbrev Y0_7 : Type := Int × Int × Int × Int
abbrev Y0_8 : Type := Int × Int × (List Y0_0) × (List (PN Int 5)) × Bool × Bool × Bool × (List Y0_3) × (((List Int) × List Bool) × List Y0_4) × (List Int) × List Bool
abbrev Y0_9 : Type := Int × Int × (List Y0_0) × (List (PN Int 5)) × Bool × Bool × Bool × (List Y0_3) × (List Int) × (List Bool) × (List Y0_4) × (List Int) × (List Bool) × Unit
abbrev Y0_10 : Ty := .pair (.int .i64) (.pair (.int .i64) (.pair (.sl 43 Y0_1) (.pair (.sl 117 (arrT 5 (.int .i64))) (.pair .bool (.pair .bool (.pair .bool (.pair (.sl 124 Y0_2) (.pair (.pair (.pair (.sl 3 (.int .i64)) (.sl 4 .bool)) (.sl 97 Y0_5)) (.pair (.sl 3 (.int .i64)) (.sl 4 .bool))))))))))
abbrev Y0_11 : Type := Int × Int × (List Y0_0) × (List (PN Int 5)) × Bool × Bool × Bool × (List Y0_3) × (List Int) × (List Bool) × (List Y0_4) × (List Int) × (List Bool) × Int × Int × Int × Int × (List Y0_7) × (List Y0_7) × (List Y0_7) × Int × Int × Int × Int × Int × (List (PN Int 6)) × Int × Int × Int × Int × Unit
abbrev Y0_12 : Type := (Int × Unit) × Unit
abbrev Y0_13 : Type := Int × Int × Int × Bool
abbrev Y0_14 : Type := List (Int × Int)
abbrev Y0_15 : Type := (Bool × Unit) × Unit
abbrev Y0_16 : Ty := .pair (.int .i64) (.int .i64)
abbrev Y0_17 : Ty := .pair (.int .i64) (.pair (.int .i64) (.pair (.int .i64) .bool))
abbrev Y0_18 : Ty := .sl 3 (.int .i64)
abbrev Y0_19 : Type := ((List Int) × Unit) × Unit
abbrev Y0_20 : Type := Int × Int × (List Y0_0) × (List (PN Int 5)) × Bool × Bool × Bool × (List Y0_3) × (((List Int) × List Bool) × List Y0_4) × (List Int) × List Bool
abbrev Y0_21 : Type := Int × Int × Unit × Unit × Bool × Bool × Bool × Unit × Unit × Unit × Unit × Unit × Unit × Unit
abbrev Y0_22 : Type := (List Y0_7) → (List Y0_13) → (List Int) → (List Y0_13) → Int → Int → Option Y0_15
abbrev Y0_23 : Type := (Int × Int × Int × Unit) × Unit
abbrev Y0_24 : Type := ((List Y0_0) × (List (PN Int 5)) × Int × Unit) × Unit
abbrev Y0_25 : Ty := .sl 40 Y0_6
abbrev Y0_26 : Type := (List Int) × List Bool
abbrev Y0_27 : Type := List (PN Bool 24)
abbrev Y0_28 : Type := Int × Int × Int × (List Y0_7) × (List Y0_7) × List Y0_7
abbrev Y0_29 : Ty := .pair Y0_18 (.sl 4 .bool)
abbrev Y0_30 : Type := (List Y0_0) → Int → Int → Y0_14 → (List Y0_0) → Int → Int → Option Y0_12
abbrev Y0_31 : Type := List (Int × Int)
abbrev Y0_32 : Type := (Y0_14 × Unit) × Unit
abbrev Y0_33 : Type := (List Y0_7) → Y0_27 → (List Y0_13) → Int → Int → Option ((Y0_27 × Unit) × Unit)
abbrev Y0_34 : Type := (Int × Bool × Unit) × Unit
abbrev Y0_35 : Ty := arrT 5 (.int .i64)
abbrev Y0_36 : Type := (List Y0_0) → Int → Int → Int → Int → Int → Int → Bool → Option Y0_23
abbrev Y0_37 : Type := (List Y0_7) → (List Int) → (List Int) → (List ((PN Bool 24) × Int)) → Y0_27 → Y0_27 → Int → Int → Option (((List Int) × Bool × Unit) × Unit)
abbrev Y0_38 : Type := ((List Y0_7) × Unit) × Unit
abbrev Y0_39 : Ty := .sl 43 Y0_1
abbrev Y0_40 : Type := ((Y0_26 × List Y0_4) × (Int × Int) × Bool × Unit) × Unit
abbrev Y0_41 : Type := Int × (Int × Int) × (Int × Int) × ((List Int) × List Int) × (Int × List (Int × Int)) × Int
abbrev Y0_42 : Type := ((Int × Int × List (Int × Int)) × Bool × Unit) × Unit
abbrev Y0_43 : Type := Int → Int → (List Y0_0) → (List (PN Int 5)) → Bool → Bool → Bool → (List Y0_3) → (List Int) → (List Bool) → (List Y0_4) → (List Int) → (List Bool) → Int → Int → Bool → Bool → Bool → Int → Int → Option ((Y0_8 × Unit) × Unit)
abbrev Y0_44 : Type := (Y0_8 × Int × Unit) × Unit
abbrev Y0_45 : Type := ((Y0_26 × List Y0_4) × Unit) × Unit
abbrev Y0_46 : Type := Int → (List Int) → Int → Int → Option Y0_12
abbrev Y0_47 : Type := ((List ((Int × Int) × Bool)) × Unit) × Unit
abbrev Y0_48 : Type := (List Int) → (List Y0_7) → Int → Int → Option Y0_19
abbrev Y0_49 : Type := (List Y0_0) → Int → Int → Y0_14 → (List Y0_0) → Int → Int → Y0_14 → Int → Int → Option Y0_12
abbrev Y0_50 : Type := Int × (PN Int 8) × (List (Int × Int × Int)) × Bool
abbrev Y0_51 : Type := List Y0_13
abbrev Y0_52 : Type := Int × Int × Int × (List Y0_7) × (List Y0_7) × (List Y0_7) × Unit
abbrev Y0_53 : Type := Int × Unit
abbrev Y0_54 : Type := ((List (PN Int 5)) × Int × Unit) × Unit
abbrev Y0_55 : Ty := .pair Y0_29 (.sl 97 Y0_5)
abbrev Y0_56 : Type := (Y0_27 × Unit) × Unit
abbrev Y0_57 : Ty := .sl 4 .bool
abbrev Y0_58 : Type := (Y0_8 × Unit) × Unit
abbrev Y0_59 : Type := ((List Int) × Bool × Unit) × Unit
abbrev Y0_60 : Type := Int × Int × Int × Bool × Unit
abbrev Y0_61 : Type := (List Int) × (List Bool) × (List Y0_4) × Unit
abbrev Y0_62 : Ty := .sl 2 (.int .i64)
abbrev Y0_63 : Type := ((Unit) × (List Y0_7) × Unit × Int × Int × Unit) → Option Y0_12
abbrev Y0_64 : Ty := arrT 24 .bool
abbrev Y0_65 : Ty := arrT 6 (.int .i64)
abbrev Y0_66 : Ty := .pair (.int .i64) (.int .u32)
abbrev Y0_67 : Type := (Unit) × Y0_11 × Unit
abbrev Y0_68 : Type := List (PN Int 5)
abbrev Y0_69 : Type := Int × Bool × Unit
abbrev Y0_70 : Type := PN Bool 24
abbrev Y0_71 : Type := (List Int) × List Bool
abbrev Y0_72 : Type := List (List Y0_7)
abbrev Y0_73 : Type := (Int × Int) × Bool
noncomputable section
def E0 : Env := tab.env (fun _ => none) (fun _ => 0)
theorem E0_ok : EnvOK Tryz.prog E0 := envOK_of tabOK _ _ (fun f F h => by cases h)
theorem okF {f : FuncId} {fn : Func} {F : Fn} {C : Code} (l : List (Nat × Fn)) (h : List (Nat × Nat)) (T : Nat → Tbl (RD F.rs × MD F.ps)) (hl : AllFn Tryz.prog l) (hf : Tryz.prog.funcs[f]? = some fn) (hb : fn.body = some C)
(h1 : (fn.name == "runtime.NumGoroutine") = false := by kernel_rfl) (h2 : Nat.ble F.ps.length fn.ntmps = true := by kernel_rfl)
(h3 : ∀ k, owedF (tab.env (lk l) (hintL h)) fn F.ps F.rs k true (T k) = owedF (tab.env (lk l) (hintL h)) fn F.ps F.rs k false (T k) := by intro k; kernel_rfl) (h4 : ∀ k x, F.sem k x = evalF (tab.env (lk l) (hintL h)) fn F.ps F.rs k (T k) x := by intro k x; kernel_rfl) : FnOK Tryz.prog f F :=
evalF_ok (envOK_of tabOK _ _ (allFn_lk hl)) mix hf hb h1 h2 h3 h4
def S29 (k : Nat) (a : Int) : Option ((Y0_26 × Unit) × Unit) :=
 mk (mn (mx a 0) 64) (mn (mx a 0) 64) 8 <|
 mk (mn (mx a 0) 64) (mn (mx a 0) 64) 1 <|
 some (((List.replicate (mn (mx a 0) 64).toNat (0 : Int), List.replicate (mn (mx a 0) 64).toNat (false : Bool)), ()), ())
def F29 : Fn := ⟨[.val ⟨false, (.int .i64), false⟩], [.val ⟨true, Y0_29, true⟩], fun k x => S29 k x.1⟩
theorem ok29 : FnOK Tryz.prog 29 F29 := okF [] [] (fun k => .nil) trivial Tryz.func29 rfl
def S11 (k : Nat) : Option Y0_45 :=
 (S29 k 12).bind fun q0 =>
 mk 12 12 128 <|
 some (((q0.1.1, List.replicate 12 ((0, (0, 0), (0, 0), ([], []), (0, []), 0) : Int × (Int × Int) × (Int × Int) × ((List Int) × List Int) × (Int × List (Int × Int)) × Int)), ()), ())
def F11 : Fn := ⟨[], [.val ⟨true, Y0_55, true⟩], fun k x => S11 k ⟩
theorem ok11 : FnOK Tryz.prog 11 F11 := okF [(29, F29)] [] (fun k => .nil) ⟨ok29, trivial⟩ Tryz.func11 rfl
def S12 (k : Nat) (a : Int) : Option ((Y0_26 × Unit) × Unit) :=
 mk (mn (mx a 0) 65536) (mn (mx a 0) 65536) 8 <|
 mk (mn (mx a 0) 65536) (mn (mx a 0) 65536) 1 <|
 some (((List.replicate (mn (mx a 0) 65536).toNat (0 : Int), List.replicate (mn (mx a 0) 65536).toNat (false : Bool)), ()), ())
def F12 : Fn := ⟨[.val ⟨false, (.int .i64), false⟩], [.val ⟨true, Y0_29, true⟩], fun k x => S12 k x.1⟩
theorem ok12 : FnOK Tryz.prog 12 F12 := okF [] [] (fun k => .nil) trivial Tryz.func12 rfl
def S8 (k : Nat) (a : Int) : Option ((Y0_8 × Bool × Unit) × Unit) :=
 (bif decide (a < 1) then
  some (((0, 0, [], [], false, false, false, [], (([], []), []), [], []), false, ()), ())
 else
  (bif decide (a > 4611686018427387904) then
   some (((0, 0, [], [], false, false, false, [], (([], []), []), [], []), false, ()), ())
  else
   (S11 k).bind fun q0 =>
   (S12 k 0).bind fun q1 =>
   some (((0, a, [], [], false, false, false, [], q0.1.1, q1.1.1), true, ()), ())))
def F8 : Fn := ⟨[.val ⟨false, (.int .i64), false⟩], [.val ⟨true, Y0_10, true⟩, .val ⟨false, .bool, true⟩], fun k x => S8 k x.1⟩
theorem ok8 : FnOK Tryz.prog 8 F8 := okF [(11, F11), (12, F12)] [] (fun k => .nil) ⟨ok11, ok12, trivial⟩ Tryz.func8 rfl
def S175 (k : Nat) (a : Int) : Option Y0_15 :=
 (bif decide (a ≥ 0) then
  some ((decide (a < 8), ()), ())
 else
  some ((false, ()), ()))
def F175 : Fn := ⟨[.val ⟨false, (.int .i64), false⟩], [.val ⟨false, .bool, true⟩], fun k x => S175 k x.1⟩
theorem ok175 : FnOK Tryz.prog 175 F175 := okF [] [] (fun k => .nil) trivial Tryz.func175 rfl
def S176 (k : Nat) (a b c : Int) : Option Y0_15 :=
 (bif decide (a ≥ b) then
  some ((decide (a ≤ c), ()), ())
 else
  some ((false, ()), ()))
def F176 : Fn := ⟨[.val ⟨false, (.int .i64), false⟩, .val ⟨false, (.int .i64), false⟩, .val ⟨false, (.int .i64), false⟩], [.val ⟨false, .bool, true⟩], fun k x => S176 k x.1 x.2.1 x.2.2.1⟩
theorem ok176 : FnOK Tryz.prog 176 F176 := okF [] [] (fun k => .nil) trivial Tryz.func176 rfl
def S151 (k : Nat) (a : Int × Int × Int × Int) : Option Y0_15 :=
 (bif a.1 == 0 then
  (bif a.2.1 == 0 then
   (bif a.2.2.1 == 0 then
    some ((a.2.2.2 == 0, ()), ())
   else
    some ((false, ()), ()))
  else
   some ((false, ()), ()))
 else
  (bif a.1 == 11 then
   (bif a.2.1 == 0 then
    (bif a.2.2.1 == 0 then
     some ((a.2.2.2 == 0, ()), ())
    else
     some ((false, ()), ()))
   else
    some ((false, ()), ()))
  else
   (bif a.1 == 1 then
    (S175 k a.2.1).bind fun q0 =>
    (bif q0.1.1 then
     (bif a.2.2.1 == 0 then
      (S176 k a.2.2.2 (-2147483648) 2147483647).bind fun q1 =>
      some ((q1.1.1, ()), ())
     else
      some ((false, ()), ()))
    else
     some ((false, ()), ()))
   else
    (bif a.1 == 2 then
     (S175 k a.2.1).bind fun q2 =>
     (bif q2.1.1 then
      (S175 k a.2.2.1).bind fun q3 =>
      (bif q3.1.1 then
       some ((a.2.2.2 == 0, ()), ())
      else
       some ((false, ()), ()))
     else
      some ((false, ()), ()))
    else
     (bif a.1 == 3 then
      (S175 k a.2.1).bind fun q4 =>
      (bif q4.1.1 then
       (S175 k a.2.2.1).bind fun q5 =>
       (bif q5.1.1 then
        some ((a.2.2.2 == 0, ()), ())
       else
        some ((false, ()), ()))
      else
       some ((false, ()), ()))
     else
      (bif a.1 == 4 then
       (S175 k a.2.1).bind fun q6 =>
       (bif q6.1.1 then
        (S175 k a.2.2.1).bind fun q7 =>
        (bif q7.1.1 then
         some ((a.2.2.2 == 0, ()), ())
        else
         some ((false, ()), ()))
       else
        some ((false, ()), ()))
      else
       (bif a.1 == 5 then
        (S175 k a.2.1).bind fun q8 =>
        (bif q8.1.1 then
         (bif a.2.2.1 == 0 then
          (S176 k a.2.2.2 (-63) 63).bind fun q9 =>
          some ((q9.1.1, ()), ())
         else
          some ((false, ()), ()))
        else
         some ((false, ()), ()))
       else
        (bif a.1 == 6 then
         (S175 k a.2.1).bind fun q10 =>
         (bif q10.1.1 then
          (bif a.2.2.1 == 0 then
           (S176 k a.2.2.2 1 64).bind fun q11 =>
           some ((q11.1.1, ()), ())
          else
           some ((false, ()), ()))
         else
          some ((false, ()), ()))
        else
         (bif a.1 == 7 then
          (S175 k a.2.1).bind fun q12 =>
          (bif q12.1.1 then
           (bif a.2.2.1 == 0 then
            (S176 k a.2.2.2 1 24).bind fun q13 =>
            some ((q13.1.1, ()), ())
           else
            some ((false, ()), ()))
          else
           some ((false, ()), ()))
         else
          (bif a.1 == 8 then
           (bif a.2.1 == 0 then
            (S176 k a.2.2.1 1 24).bind fun q14 =>
            (bif q14.1.1 then
             (S176 k a.2.2.2 1 20).bind fun q15 =>
             some ((q15.1.1, ()), ())
            else
             some ((false, ()), ()))
           else
            some ((false, ()), ()))
          else
           (bif a.1 == 9 then
            (S176 k a.2.1 0 3).bind fun q16 =>
            (bif q16.1.1 then
             (bif a.2.2.1 == 0 then
              some ((a.2.2.2 == 0, ()), ())
             else
              some ((false, ()), ()))
            else
             some ((false, ()), ()))
           else
            (bif a.1 == 10 then
             (S176 k a.2.1 0 3).bind fun q17 =>
             (bif q17.1.1 then
              (bif a.2.2.1 == 0 then
               some ((a.2.2.2 == 0, ()), ())
              else
               some ((false, ()), ()))
             else
              some ((false, ()), ()))
            else
             some ((false, ()), ())))))))))))))
def F151 : Fn := ⟨[.val ⟨true, Y0_6, false⟩], [.val ⟨false, .bool, true⟩], fun k x => S151 k x.1⟩
theorem ok151 : FnOK Tryz.prog 151 F151 := okF [(175, F175), (176, F176)] [] (fun k => .nil) ⟨ok175, ok176, trivial⟩ Tryz.func151 rfl
def S150 (k : Nat) (a : Int × Int × Int × Int) : Option Y0_15 :=
 (S151 k a).bind fun q0 =>
 some ((!q0.1.1, ()), ())
def F150 : Fn := ⟨[.val ⟨true, Y0_6, false⟩], [.val ⟨false, .bool, true⟩], fun k x => S150 k x.1⟩
theorem ok150 : FnOK Tryz.prog 150 F150 := okF [(151, F151)] [] (fun k => .nil) ⟨ok151, trivial⟩ Tryz.func150 rfl
abbrev c115_L2 : Cut := ⟨[0, 1, 7, 8], [.cell Y0_25, .clo 150 [], cI, cI], [], 19, []⟩
def l115_2 (k : Nat) (g2 : (List Y0_7) → Int → Int → Option Y0_12) (a : List Y0_7) (b c : Int) : Option Y0_12 :=
 (bif decide (c < b) then
  ix a c <|
  (S150 k (rd a c (0, 0, 0, 0))).bind fun q0 =>
  (bif q0.1.1 then
   some ((c, ()), ())
  else
   g2 a b (IntKind.i64.wrap (c + 1)))
 else
  some (((-1), ()), ()))
def b115_2 (k : Nat) (g : Y0_63) (d : (Unit) × (List Y0_7) × Unit × Int × Int × Unit) : Option Y0_12 := l115_2 k (fun a b c => g ((), a, (), b, c, ())) d.2.1 d.2.2.2.1 d.2.2.2.2.1
def L115_2 (k a : Nat) (b : List Y0_7) (c e : Int) : Option Y0_12 := iter (R := Y0_53 × Unit) c115_L2 (b115_2 k) a ((), b, (), c, e, ())
theorem L115_2_s (k a b c e) : L115_2 k (a + 1) b c e = l115_2 k (L115_2 k a) b c e := iter_succ _ _ _ _
def S115 (k : Nat) (a : List Y0_7) : Option Y0_12 :=
 L115_2 k k a (a.length : Int) 0
def F115 : Fn := ⟨[.val ⟨false, Y0_25, false⟩, .pv (.clo 150 [])], [.val ⟨false, (.int .i64), true⟩], fun k x => S115 k x.1⟩
theorem ok115 : FnOK Tryz.prog 115 F115 := okF [(150, F150)] [] (fun k => (.loop 2 c115_L2 (b115_2 k) (fun g => .nil) .nil)) ⟨ok150, trivial⟩ Tryz.func115 rfl
def S68 (k : Nat) (a : List Y0_7) : Option Y0_15 :=
 (S115 k a).bind fun q0 =>
 some ((decide (q0.1.1 ≥ 0), ()), ())
def F68 : Fn := ⟨[.val ⟨false, Y0_25, false⟩, .pv (.clo 150 [])], [.val ⟨false, .bool, true⟩], fun k x => S68 k x.1⟩
theorem ok68 : FnOK Tryz.prog 68 F68 := okF [(115, F115)] [] (fun k => .nil) ⟨ok115, trivial⟩ Tryz.func68 rfl
def S152 (k : Nat) (a : Int × Int × Int × Int) : Option Y0_15 :=
 some ((a.1 == 0, ()), ())
def F152 : Fn := ⟨[.val ⟨true, Y0_6, false⟩], [.val ⟨false, .bool, true⟩], fun k x => S152 k x.1⟩
theorem ok152 : FnOK Tryz.prog 152 F152 := okF [] [] (fun k => .nil) trivial Tryz.func152 rfl
abbrev c115a_L2 : Cut := ⟨[0, 1, 7, 8], [.cell Y0_25, .clo 152 [], cI, cI], [], 19, []⟩
def l115a_2 (k : Nat) (g2 : (List Y0_7) → Int → Int → Option Y0_12) (a : List Y0_7) (b c : Int) : Option Y0_12 :=
 (bif decide (c < b) then
  ix a c <|
  (S152 k (rd a c (0, 0, 0, 0))).bind fun q0 =>
  (bif q0.1.1 then
   some ((c, ()), ())
  else
   g2 a b (IntKind.i64.wrap (c + 1)))
 else
  some (((-1), ()), ()))
def b115a_2 (k : Nat) (g : Y0_63) (d : (Unit) × (List Y0_7) × Unit × Int × Int × Unit) : Option Y0_12 := l115a_2 k (fun a b c => g ((), a, (), b, c, ())) d.2.1 d.2.2.2.1 d.2.2.2.2.1
def L115a_2 (k a : Nat) (b : List Y0_7) (c e : Int) : Option Y0_12 := iter (R := Y0_53 × Unit) c115a_L2 (b115a_2 k) a ((), b, (), c, e, ())
theorem L115a_2_s (k a b c e) : L115a_2 k (a + 1) b c e = l115a_2 k (L115a_2 k a) b c e := iter_succ _ _ _ _
def S115a (k : Nat) (a : List Y0_7) : Option Y0_12 :=
 L115a_2 k k a (a.length : Int) 0
def F115a : Fn := ⟨[.val ⟨false, Y0_25, false⟩, .pv (.clo 152 [])], [.val ⟨false, (.int .i64), true⟩], fun k x => S115a k x.1⟩
theorem ok115a : FnOK Tryz.prog 115 F115a := okF [(152, F152)] [] (fun k => (.loop 2 c115a_L2 (b115a_2 k) (fun g => .nil) .nil)) ⟨ok152, trivial⟩ Tryz.func115 rfl
abbrev c177_L2 : Cut := ⟨[2, 5, 6, 7], [.own 283 Y0_17, .cell Y0_25, cI, cI], [], 42, []⟩
def l177_2 (k : Nat) (g2 : Y0_51 → (List Y0_7) → Int → Int → Option ((Y0_51 × Unit) × Unit)) (a : List Y0_13) (b : List Y0_7) (c e : Int) : Option ((Y0_51 × Unit) × Unit) :=
 (bif decide (e < c) then
  ix b e <|
  (bif (rd b e (0, 0, 0, 0)).1 == 8 then
   ap a ([(IntKind.i64.wrap (e + 1), IntKind.i64.wrap (e + (rd b e (0, 0, 0, 0)).2.2.1), e, true)] : List Y0_13) 32 fun r0 =>
   g2 r0 b c (IntKind.i64.wrap (e + 1))
  else
   (bif (rd b e (0, 0, 0, 0)).1 == 7 then
    ap a ([(IntKind.i64.wrap (e + 1), IntKind.i64.wrap (e + (rd b e (0, 0, 0, 0)).2.2.2), e, false)] : List Y0_13) 32 fun r1 =>
    g2 r1 b c (IntKind.i64.wrap (e + 1))
   else
    g2 a b c (IntKind.i64.wrap (e + 1))))
 else
  some ((a, ()), ()))
def b177_2 (k : Nat) (g : ((Unit) × Y0_51 × (List Y0_7) × Int × Int × Unit) → Option ((Y0_51 × Unit) × Unit)) (d : (Unit) × Y0_51 × (List Y0_7) × Int × Int × Unit) : Option ((Y0_51 × Unit) × Unit) := l177_2 k (fun a b c e => g ((), a, b, c, e, ())) d.2.1 d.2.2.1 d.2.2.2.1 d.2.2.2.2.1
def L177_2 (k a : Nat) (b : List Y0_13) (c : List Y0_7) (e f : Int) : Option ((Y0_51 × Unit) × Unit) := iter (R := (Y0_51 × Unit) × Unit) c177_L2 (b177_2 k) a ((), b, c, e, f, ())
theorem L177_2_s (k a b c e f) : L177_2 k (a + 1) b c e f = l177_2 k (L177_2 k a) b c e f := iter_succ _ _ _ _
def S177 (k : Nat) (a : List Y0_7) : Option ((Y0_51 × Unit) × Unit) :=
 L177_2 k k ([] : List Y0_13) a (a.length : Int) 0
def F177 : Fn := ⟨[.val ⟨false, Y0_25, false⟩], [.val ⟨false, (.sl 283 Y0_17), true⟩], fun k x => S177 k x.1⟩
theorem ok177 : FnOK Tryz.prog 177 F177 := okF [] [(2, 2)] (fun k => (.loop 2 c177_L2 (b177_2 k) (fun g => .nil) .nil)) trivial Tryz.func177 rfl
def S178 (k : Nat) (a : Int × Int × Int × Bool) (b : Int) : Option Y0_15 :=
 (bif decide (b ≥ a.1) then
  some ((decide (b ≤ a.2.1), ()), ())
 else
  some ((false, ()), ()))
def F178 : Fn := ⟨[.val ⟨true, Y0_17, false⟩, .val ⟨false, (.int .i64), false⟩], [.val ⟨false, .bool, true⟩], fun k x => S178 k x.1 x.2.1⟩
theorem ok178 : FnOK Tryz.prog 178 F178 := okF [] [] (fun k => .nil) trivial Tryz.func178 rfl
def S179 (k : Nat) (a b : Int × Int × Int × Bool) : Option Y0_15 :=
 (S178 k b a.1).bind fun q0 =>
 (bif q0.1.1 then
  (S178 k b a.2.1).bind fun q1 =>
  some ((q1.1.1, ()), ())
 else
  some ((false, ()), ()))
def F179 : Fn := ⟨[.val ⟨true, Y0_17, false⟩, .val ⟨true, Y0_17, false⟩], [.val ⟨false, .bool, true⟩], fun k x => S179 k x.1 x.2.1⟩
theorem ok179 : FnOK Tryz.prog 179 F179 := okF [(178, F178)] [] (fun k => .nil) ⟨ok178, trivial⟩ Tryz.func179 rfl
def S180 (k : Nat) (a b : Int × Int × Int × Bool) : Option Y0_15 :=
 (bif decide (a.2.1 < b.1) then
  some ((true, ()), ())
 else
  some ((decide (b.2.1 < a.1), ()), ()))
def F180 : Fn := ⟨[.val ⟨true, Y0_17, false⟩, .val ⟨true, Y0_17, false⟩], [.val ⟨false, .bool, true⟩], fun k x => S180 k x.1 x.2.1⟩
theorem ok180 : FnOK Tryz.prog 180 F180 := okF [] [] (fun k => .nil) trivial Tryz.func180 rfl
def S181 (k : Nat) (a : Int) : Option Y0_15 :=
 some ((decide (a > 2), ()), ())
def F181 : Fn := ⟨[.val ⟨false, (.int .i64), false⟩], [.val ⟨false, .bool, true⟩], fun k x => S181 k x.1⟩
theorem ok181 : FnOK Tryz.prog 181 F181 := okF [] [] (fun k => .nil) trivial Tryz.func181 rfl
abbrev c131_L2 : Cut := ⟨[0, 1, 7, 8], [.cell Y0_18, .clo 181 [], cI, cI], [], 19, []⟩
def l131_2 (k : Nat) (g2 : (List Int) → Int → Int → Option Y0_12) (a : List Int) (b c : Int) : Option Y0_12 :=
 (bif decide (c < b) then
  ix a c <|
  (S181 k (rd a c 0)).bind fun q0 =>
  (bif q0.1.1 then
   some ((c, ()), ())
  else
   g2 a b (IntKind.i64.wrap (c + 1)))
 else
  some (((-1), ()), ()))
def b131_2 (k : Nat) (g : ((Unit) × (List Int) × Unit × Int × Int × Unit) → Option Y0_12) (d : (Unit) × (List Int) × Unit × Int × Int × Unit) : Option Y0_12 := l131_2 k (fun a b c => g ((), a, (), b, c, ())) d.2.1 d.2.2.2.1 d.2.2.2.2.1
def L131_2 (k a : Nat) (b : List Int) (c e : Int) : Option Y0_12 := iter (R := Y0_53 × Unit) c131_L2 (b131_2 k) a ((), b, (), c, e, ())
theorem L131_2_s (k a b c e) : L131_2 k (a + 1) b c e = l131_2 k (L131_2 k a) b c e := iter_succ _ _ _ _
def S131 (k : Nat) (a : List Int) : Option Y0_12 :=
 L131_2 k k a (a.length : Int) 0
def F131 : Fn := ⟨[.val ⟨false, Y0_18, false⟩, .pv (.clo 181 [])], [.val ⟨false, (.int .i64), true⟩], fun k x => S131 k x.1⟩
theorem ok131 : FnOK Tryz.prog 131 F131 := okF [(181, F181)] [] (fun k => (.loop 2 c131_L2 (b131_2 k) (fun g => .nil) .nil)) ⟨ok181, trivial⟩ Tryz.func131 rfl
def S156 (k : Nat) (a : List Int) : Option Y0_15 :=
 (S131 k a).bind fun q0 =>
 some ((decide (q0.1.1 ≥ 0), ()), ())
def F156 : Fn := ⟨[.val ⟨false, Y0_18, false⟩, .pv (.clo 181 [])], [.val ⟨false, .bool, true⟩], fun k x => S156 k x.1⟩
theorem ok156 : FnOK Tryz.prog 156 F156 := okF [(131, F131)] [] (fun k => .nil) ⟨ok131, trivial⟩ Tryz.func156 rfl
abbrev c153_L15 : Cut := ⟨[0, 3, 4, 6, 9, 15, 16, 17], [.cell Y0_25, .cell (.sl 283 Y0_17), .own 3 (.int .i64), .box 283 [cI, cI, cI, .cell .bool], cI, .cell (.sl 283 Y0_17), cI, cI], [], 84, []⟩
def l153_15 (k : Nat) (g4 : Y0_22) (g15 : (List Y0_7) → Y0_51 → (List Int) → Int → Int → Int → Bool → Int → Y0_51 → Int → Int → Option Y0_15) (a : List Y0_7) (b : List Y0_13) (c : List Int) (e f h : Int) (i : Bool) (l : Int) (m : List Y0_13) (n o : Int) : Option Y0_15 :=
 (bif i then
  (bif decide (l ≤ f) then
   ix c l <|
   ix c l <|
   g15 a b (upd c l (IntKind.i64.wrap ((rd c l 0) + 1))) e f h i (IntKind.i64.wrap (l + 1)) m n o
  else
   g4 a b c m n (IntKind.i64.wrap (o + 1)))
 else
  g4 a b c m n (IntKind.i64.wrap (o + 1)))
def b153_15 (k : Nat) (g4 : Y0_22) (g : ((Unit) × (List Y0_7) × Y0_51 × (List Int) × Y0_60 × Int × Y0_51 × Int × Int × Unit) → Option Y0_15) (d : (Unit) × (List Y0_7) × Y0_51 × (List Int) × Y0_60 × Int × Y0_51 × Int × Int × Unit) : Option Y0_15 := l153_15 k g4 (fun a b c e f h i l m n o => g ((), a, b, c, (e, f, h, i, ()), l, m, n, o, ())) d.2.1 d.2.2.1 d.2.2.2.1 d.2.2.2.2.1.1 d.2.2.2.2.1.2.1 d.2.2.2.2.1.2.2.1 d.2.2.2.2.1.2.2.2.1 d.2.2.2.2.2.1 d.2.2.2.2.2.2.1 d.2.2.2.2.2.2.2.1 d.2.2.2.2.2.2.2.2.1
def L153_15 (k : Nat) (g4 : Y0_22) (a : Nat) (b : List Y0_7) (c : List Y0_13) (e : List Int) (f h i : Int) (l : Bool) (m : Int) (n : List Y0_13) (o p : Int) : Option Y0_15 := iter (R := (Bool × Unit) × Unit) c153_L15 (b153_15 k g4) a ((), b, c, e, (f, h, i, l, ()), m, n, o, p, ())
theorem L153_15_s (k g4 a b c e f h i l m n o p) : L153_15 k g4 (a + 1) b c e f h i l m n o p = l153_15 k g4 (L153_15 k g4 a) b c e f h i l m n o p := iter_succ _ _ _ _
abbrev c153_L9 : Cut := ⟨[0, 3, 4, 6, 15, 16, 17, 27, 28, 29], [.cell Y0_25, .cell (.sl 283 Y0_17), .own 3 (.int .i64), .box 283 [cI, cI, cI, .cell .bool], .cell (.sl 283 Y0_17), cI, cI, .cell (.sl 283 Y0_17), cI, cI], [], 84, []⟩
def l153_9 (k : Nat) (g4 : Y0_22) (g9 : (List Y0_7) → Y0_51 → (List Int) → Int → Int → Int → Bool → Y0_51 → Int → Int → Y0_51 → Int → Int → Option Y0_15) (a : List Y0_7) (b : List Y0_13) (c : List Int) (e f h : Int) (i : Bool) (l : List Y0_13) (m n : Int) (o : List Y0_13) (p s : Int) : Option Y0_15 :=
 (bif decide (s < p) then
  ix o s <|
  (S178 k (rd o s (0, 0, 0, false)) h).bind fun q1 =>
  (bif q1.1.1 then
   (S179 k (e, f, h, i) (rd o s (0, 0, 0, false))).bind fun q2 =>
   (bif !q2.1.1 then
    some ((false, ()), ())
   else
    (S180 k (e, f, h, i) (rd o s (0, 0, 0, false))).bind fun q3 =>
    (bif !q3.1.1 then
     (S179 k (e, f, h, i) (rd o s (0, 0, 0, false))).bind fun q4 =>
     (bif !q4.1.1 then
      (S179 k (rd o s (0, 0, 0, false)) (e, f, h, i)).bind fun q5 =>
      (bif !q5.1.1 then
       some ((false, ()), ())
      else
       g9 a b c e f h i l m n o p (IntKind.i64.wrap (s + 1)))
     else
      g9 a b c e f h i l m n o p (IntKind.i64.wrap (s + 1)))
    else
     g9 a b c e f h i l m n o p (IntKind.i64.wrap (s + 1))))
  else
   (S180 k (e, f, h, i) (rd o s (0, 0, 0, false))).bind fun q6 =>
   (bif !q6.1.1 then
    (S179 k (e, f, h, i) (rd o s (0, 0, 0, false))).bind fun q7 =>
    (bif !q7.1.1 then
     (S179 k (rd o s (0, 0, 0, false)) (e, f, h, i)).bind fun q8 =>
     (bif !q8.1.1 then
      some ((false, ()), ())
     else
      g9 a b c e f h i l m n o p (IntKind.i64.wrap (s + 1)))
    else
     g9 a b c e f h i l m n o p (IntKind.i64.wrap (s + 1)))
   else
    g9 a b c e f h i l m n o p (IntKind.i64.wrap (s + 1))))
 else
  L153_15 k g4 k a b c e f h i e l m n)
def b153_9 (k : Nat) (g4 : Y0_22) (g : ((Unit) × (List Y0_7) × Y0_51 × (List Int) × Y0_60 × Y0_51 × Int × Int × Y0_51 × Int × Int × Unit) → Option Y0_15) (d : (Unit) × (List Y0_7) × Y0_51 × (List Int) × Y0_60 × Y0_51 × Int × Int × Y0_51 × Int × Int × Unit) : Option Y0_15 := l153_9 k g4 (fun a b c e f h i l m n o p s => g ((), a, b, c, (e, f, h, i, ()), l, m, n, o, p, s, ())) d.2.1 d.2.2.1 d.2.2.2.1 d.2.2.2.2.1.1 d.2.2.2.2.1.2.1 d.2.2.2.2.1.2.2.1 d.2.2.2.2.1.2.2.2.1 d.2.2.2.2.2.1 d.2.2.2.2.2.2.1 d.2.2.2.2.2.2.2.1 d.2.2.2.2.2.2.2.2.1 d.2.2.2.2.2.2.2.2.2.1 d.2.2.2.2.2.2.2.2.2.2.1
def L153_9 (k : Nat) (g4 : Y0_22) (a : Nat) (b : List Y0_7) (c : List Y0_13) (e : List Int) (f h i : Int) (l : Bool) (m : List Y0_13) (n o : Int) (p : List Y0_13) (s t : Int) : Option Y0_15 := iter (R := (Bool × Unit) × Unit) c153_L9 (b153_9 k g4) a ((), b, c, e, (f, h, i, l, ()), m, n, o, p, s, t, ())
theorem L153_9_s (k g4 a b c e f h i l m n o p s t) : L153_9 k g4 (a + 1) b c e f h i l m n o p s t = l153_9 k g4 (L153_9 k g4 a) b c e f h i l m n o p s t := iter_succ _ _ _ _
abbrev c153_L4 : Cut := ⟨[0, 3, 4, 15, 16, 17], [.cell Y0_25, .cell (.sl 283 Y0_17), .own 3 (.int .i64), .cell (.sl 283 Y0_17), cI, cI], [], 84, []⟩
def l153_4 (k : Nat) (g4 : Y0_22) (a : List Y0_7) (b : List Y0_13) (c : List Int) (e : List Y0_13) (f h : Int) : Option Y0_15 :=
 (bif decide (h < f) then
  ix e h <|
  (bif decide ((rd e h (0, 0, 0, false)).2.1 ≥ (IntKind.i64.wrap ((a.length : Int) - 1))) then
   some ((false, ()), ())
  else
   L153_9 k g4 k a b c (rd e h (0, 0, 0, false)).1 (rd e h (0, 0, 0, false)).2.1 (rd e h (0, 0, 0, false)).2.2.1 (rd e h (0, 0, 0, false)).2.2.2 e f h b (b.length : Int) 0)
 else
  (S156 k c).bind fun q9 =>
  some ((!q9.1.1, ()), ()))
def b153_4 (k : Nat) (g : ((Unit) × (List Y0_7) × Y0_51 × (List Int) × Y0_51 × Int × Int × Unit) → Option Y0_15) (d : (Unit) × (List Y0_7) × Y0_51 × (List Int) × Y0_51 × Int × Int × Unit) : Option Y0_15 := l153_4 k (fun a b c e f h => g ((), a, b, c, e, f, h, ())) d.2.1 d.2.2.1 d.2.2.2.1 d.2.2.2.2.1 d.2.2.2.2.2.1 d.2.2.2.2.2.2.1
def L153_4 (k a : Nat) (b : List Y0_7) (c : List Y0_13) (e : List Int) (f : List Y0_13) (h i : Int) : Option Y0_15 := iter (R := (Bool × Unit) × Unit) c153_L4 (b153_4 k) a ((), b, c, e, f, h, i, ())
theorem L153_4_s (k a b c e f h i) : L153_4 k (a + 1) b c e f h i = l153_4 k (L153_4 k a) b c e f h i := iter_succ _ _ _ _
def S153 (k : Nat) (a : List Y0_7) : Option Y0_15 :=
 (S177 k a).bind fun q0 =>
 mk (a.length : Int) (a.length : Int) 8 <|
 L153_4 k k a q0.1.1 (List.replicate (a.length : Int).toNat (0 : Int)) q0.1.1 (q0.1.1.length : Int) 0
def F153 : Fn := ⟨[.val ⟨false, Y0_25, false⟩], [.val ⟨false, .bool, true⟩], fun k x => S153 k x.1⟩
theorem ok153 : FnOK Tryz.prog 153 F153 := okF [(156, F156), (177, F177), (178, F178), (179, F179), (180, F180)] [] (fun k => (.loop 4 c153_L4 (b153_4 k) (fun g => (fun (g4 : Y0_22) => (.loop 15 c153_L15 (b153_15 k g4) (fun g => .nil) (.loop 9 c153_L9 (b153_9 k g4) (fun g => .nil) .nil))) (fun l_1 all around t15 t16 t17 => g ((), l_1, all, around, t15, t16, t17, ()))) .nil)) ⟨ok156, ok177, ok178, ok179, ok180, trivial⟩ Tryz.func153 rfl
abbrev c155_L6 : Cut := ⟨[0, 3, 4, 5, 11, 12, 13, 19, 20], [.cell Y0_25, .own 254 Y0_64, cI, .box 283 [cI, cI, cI, .cell .bool], .own 283 Y0_17, cI, cI, cI, cI], [], 38, []⟩
def l155_6 (k : Nat) (g3 : Y0_33) (g6 : (List Y0_7) → Y0_27 → Int → Int → Int → Int → Bool → Y0_51 → Int → Int → Int → Int → Option Y0_56) (a : List Y0_7) (b : List Y0_70) (c e f h : Int) (i : Bool) (l : List Y0_13) (m n o p : Int) : Option Y0_56 :=
 (bif decide (p < o) then
  (bif decide (c < 24) then
   (S178 k (e, f, h, i) p).bind fun q1 =>
   (bif q1.1.1 then
    ix b p <|
    ax 24 c <|
    g6 a (upd b p (aset (α := Bool) 24 (rd b p (prep (α := Bool) 24 false)) c true)) c e f h i l m n o (IntKind.i64.wrap (p + 1))
   else
    g6 a b c e f h i l m n o (IntKind.i64.wrap (p + 1)))
  else
   g6 a b c e f h i l m n o (IntKind.i64.wrap (p + 1)))
 else
  g3 a b l m (IntKind.i64.wrap (n + 1)))
def b155_6 (k : Nat) (g3 : Y0_33) (g : ((Unit) × (List Y0_7) × Y0_27 × Int × Y0_60 × Y0_51 × Int × Int × Int × Int × Unit) → Option Y0_56) (d : (Unit) × (List Y0_7) × Y0_27 × Int × Y0_60 × Y0_51 × Int × Int × Int × Int × Unit) : Option Y0_56 := l155_6 k g3 (fun a b c e f h i l m n o p => g ((), a, b, c, (e, f, h, i, ()), l, m, n, o, p, ())) d.2.1 d.2.2.1 d.2.2.2.1 d.2.2.2.2.1.1 d.2.2.2.2.1.2.1 d.2.2.2.2.1.2.2.1 d.2.2.2.2.1.2.2.2.1 d.2.2.2.2.2.1 d.2.2.2.2.2.2.1 d.2.2.2.2.2.2.2.1 d.2.2.2.2.2.2.2.2.1 d.2.2.2.2.2.2.2.2.2.1
def L155_6 (k : Nat) (g3 : Y0_33) (a : Nat) (b : List Y0_7) (c : List Y0_70) (e f h i : Int) (l : Bool) (m : List Y0_13) (n o p s : Int) : Option Y0_56 := iter (R := (Y0_27 × Unit) × Unit) c155_L6 (b155_6 k g3) a ((), b, c, e, (f, h, i, l, ()), m, n, o, p, s, ())
theorem L155_6_s (k g3 a b c e f h i l m n o p s) : L155_6 k g3 (a + 1) b c e f h i l m n o p s = l155_6 k g3 (L155_6 k g3 a) b c e f h i l m n o p s := iter_succ _ _ _ _
abbrev c155_L3 : Cut := ⟨[0, 3, 11, 12, 13], [.cell Y0_25, .own 254 Y0_64, .own 283 Y0_17, cI, cI], [], 38, []⟩
def l155_3 (k : Nat) (g3 : Y0_33) (a : List Y0_7) (b : List Y0_70) (c : List Y0_13) (e f : Int) : Option Y0_56 :=
 (bif decide (f < e) then
  ix c f <|
  L155_6 k g3 k a b f (rd c f (0, 0, 0, false)).1 (rd c f (0, 0, 0, false)).2.1 (rd c f (0, 0, 0, false)).2.2.1 (rd c f (0, 0, 0, false)).2.2.2 c e f (a.length : Int) 0
 else
  some ((b, ()), ()))
def b155_3 (k : Nat) (g : ((Unit) × (List Y0_7) × Y0_27 × Y0_51 × Int × Int × Unit) → Option Y0_56) (d : (Unit) × (List Y0_7) × Y0_27 × Y0_51 × Int × Int × Unit) : Option Y0_56 := l155_3 k (fun a b c e f => g ((), a, b, c, e, f, ())) d.2.1 d.2.2.1 d.2.2.2.1 d.2.2.2.2.1 d.2.2.2.2.2.1
def L155_3 (k a : Nat) (b : List Y0_7) (c : List Y0_70) (e : List Y0_13) (f h : Int) : Option Y0_56 := iter (R := (Y0_27 × Unit) × Unit) c155_L3 (b155_3 k) a ((), b, c, e, f, h, ())
theorem L155_3_s (k a b c e f h) : L155_3 k (a + 1) b c e f h = l155_3 k (L155_3 k a) b c e f h := iter_succ _ _ _ _
def S155 (k : Nat) (a : List Y0_7) : Option Y0_56 :=
 mk (a.length : Int) (a.length : Int) 24 <|
 (S177 k a).bind fun q0 =>
 L155_3 k k a (List.replicate (a.length : Int).toNat (prep (α := Bool) 24 false : PN Bool 24)) q0.1.1 (q0.1.1.length : Int) 0
def F155 : Fn := ⟨[.val ⟨false, Y0_25, false⟩], [.val ⟨false, (.sl 254 Y0_64), true⟩], fun k x => S155 k x.1⟩
theorem ok155 : FnOK Tryz.prog 155 F155 := okF [(177, F177), (178, F178)] [] (fun k => (.loop 3 c155_L3 (b155_3 k) (fun g => (fun (g3 : Y0_33) => (.loop 6 c155_L6 (b155_6 k g3) (fun g => .nil) .nil)) (fun l_1 out t11 t12 t13 => g ((), l_1, out, t11, t12, t13, ()))) .nil)) ⟨ok177, ok178, trivial⟩ Tryz.func155 rfl
def S182 (k : Nat) (a : Int) (b : List Y0_7) (c : Int) : Option Y0_15 :=
 ix b a <|
 ix b c <|
 some (((rd b a (0, 0, 0, 0)).2.1 == (rd b c (0, 0, 0, 0)).2.1, ()), ())
def F182 : Fn := ⟨[.val ⟨false, (.int .i64), false⟩, .pv (.ref Y0_25), .pv (.ref (.int .i64))], [.val ⟨false, .bool, true⟩], fun k x => S182 k x.1 x.2.1 x.2.2.1⟩
theorem ok182 : FnOK Tryz.prog 182 F182 := okF [] [] (fun k => .nil) trivial Tryz.func182 rfl
abbrev c131a_L2 : Cut := ⟨[0, 1, 7, 8], [.cell Y0_18, .clo 182 [.ref Y0_25, .ref (.int .i64)], cI, cI], [], 19, []⟩
def l131a_2 (k : Nat) (g2 : (List Int) → (List Y0_7) → Int → Int → Int → Option Y0_12) (a : List Int) (b : List Y0_7) (c e f : Int) : Option Y0_12 :=
 (bif decide (f < e) then
  ix a f <|
  (S182 k (rd a f 0) b c).bind fun q0 =>
  (bif q0.1.1 then
   some ((f, ()), ())
  else
   g2 a b c e (IntKind.i64.wrap (f + 1)))
 else
  some (((-1), ()), ()))
def b131a_2 (k : Nat) (g : ((Unit) × (List Int) × ((List Y0_7) × Int × Unit) × Int × Int × Unit) → Option Y0_12) (d : (Unit) × (List Int) × ((List Y0_7) × Int × Unit) × Int × Int × Unit) : Option Y0_12 := l131a_2 k (fun a b c e f => g ((), a, (b, c, ()), e, f, ())) d.2.1 d.2.2.1.1 d.2.2.1.2.1 d.2.2.2.1 d.2.2.2.2.1
def L131a_2 (k a : Nat) (b : List Int) (c : List Y0_7) (e f h : Int) : Option Y0_12 := iter (R := Y0_53 × Unit) c131a_L2 (b131a_2 k) a ((), b, (c, e, ()), f, h, ())
theorem L131a_2_s (k a b c e f h) : L131a_2 k (a + 1) b c e f h = l131a_2 k (L131a_2 k a) b c e f h := iter_succ _ _ _ _
def S131a (k : Nat) (a : List Int) (b : List Y0_7) (c : Int) : Option Y0_12 :=
 L131a_2 k k a b c (a.length : Int) 0
def F131a : Fn := ⟨[.val ⟨false, Y0_18, false⟩, .pv (.clo 182 [.ref Y0_25, .ref (.int .i64)])], [.val ⟨false, (.int .i64), true⟩], fun k x => S131a k x.1 x.2.1.1 x.2.1.2.1⟩
theorem ok131a : FnOK Tryz.prog 131 F131a := okF [(182, F182)] [] (fun k => (.loop 2 c131a_L2 (b131a_2 k) (fun g => .nil) .nil)) ⟨ok182, trivial⟩ Tryz.func131 rfl
def S156a (k : Nat) (a : List Int) (b : List Y0_7) (c : Int) : Option Y0_15 :=
 (S131a k a b c).bind fun q0 =>
 some ((decide (q0.1.1 ≥ 0), ()), ())
def F156a : Fn := ⟨[.val ⟨false, Y0_18, false⟩, .pv (.clo 182 [.ref Y0_25, .ref (.int .i64)])], [.val ⟨false, .bool, true⟩], fun k x => S156a k x.1 x.2.1.1 x.2.1.2.1⟩
theorem ok156a : FnOK Tryz.prog 156 F156a := okF [(131, F131a)] [] (fun k => .nil) ⟨ok131a, trivial⟩ Tryz.func156 rfl
abbrev c154_J8 : Cut := ⟨[1, 4, 5, 6, 7, 8, 9, 20, 21, 22], [.box 41 [.cell Y0_25], .own 3 (.int .i64), .own 3 (.int .i64), .mp 285 true Y0_64 false (.int .i64), .cell (.sl 254 Y0_64), .box 3 [cI], .box 254 [.cell .bool, .cell .bool, .cell .bool, .cell .bool, .cell .bool, .cell .bool, .cell .bool, .cell .bool, .cell .bool, .cell .bool, .cell .bool, .cell .bool, .cell .bool, .cell .bool, .cell .bool, .cell .bool, .cell .bool, .cell .bool, .cell .bool, .cell .bool, .cell .bool, .cell .bool, .cell .bool, .cell .bool], .cell (.sl 254 Y0_64), cI, cI], [], 110, []⟩
def j154_8 (k : Nat) (g3 : Y0_37) (a : List Y0_7) (b c : List Int) (e : List (Y0_70 × Int)) (f : List Y0_70) (h : Int) (x i l m n o p s t u v w y z A B C D G H I J K M : Bool) (N : List Y0_70) (O P : Int) : Option Y0_59 :=
 ix a h <|
 (bif (rd a h (0, 0, 0, 0)).1 == 9 then
  (bif decide ((c.length : Int) ≥ 2) then
   some (([], false, ()), ())
  else
   (S156a k c a h).bind fun q1 =>
   (bif q1.1.1 then
    some (([], false, ()), ())
   else
    ap c ([h] : List Int) 8 fun r2 =>
    g3 a b r2 e f N O (IntKind.i64.wrap (P + 1))))
 else
  (bif (rd a h (0, 0, 0, 0)).1 == 10 then
   (bif decide ((IntKind.i64.wrap ((c.length : Int) - 1)) < 0) then
    some (([], false, ()), ())
   else
    ix c (IntKind.i64.wrap ((c.length : Int) - 1)) <|
    ix a (rd c (IntKind.i64.wrap ((c.length : Int) - 1)) 0) <|
    ix a h <|
    (bif (rd a (rd c (IntKind.i64.wrap ((c.length : Int) - 1)) 0) (0, 0, 0, 0)).2.1 != (rd a h (0, 0, 0, 0)).2.1 then
     some (([], false, ()), ())
    else
     ix c (IntKind.i64.wrap ((c.length : Int) - 1)) <|
     ix f (rd c (IntKind.i64.wrap ((c.length : Int) - 1)) 0) <|
     (bif (mget Y0_64 (.int .i64) (rd f (rd c (IntKind.i64.wrap ((c.length : Int) - 1)) 0) (prep (α := Bool) 24 false)) e 0) != (mget Y0_64 (.int .i64) (x, i, l, m, n, o, p, s, t, u, v, w, y, z, A, B, C, D, G, H, I, J, K, M) e 0) then
      some (([], false, ()), ())
     else
      ix c (IntKind.i64.wrap ((c.length : Int) - 1)) <|
      ix b (rd c (IntKind.i64.wrap ((c.length : Int) - 1)) 0) <|
      sx c 0 (IntKind.i64.wrap ((c.length : Int) - 1)) <|
      g3 a (upd b (rd c (IntKind.i64.wrap ((c.length : Int) - 1)) 0) h) (c.take (IntKind.i64.wrap ((c.length : Int) - 1)).toNat) e f N O (IntKind.i64.wrap (P + 1)))))
  else
   g3 a b c e f N O (IntKind.i64.wrap (P + 1))))
abbrev c154_L3 : Cut := ⟨[1, 4, 5, 6, 7, 20, 21, 22], [.box 41 [.cell Y0_25], .own 3 (.int .i64), .own 3 (.int .i64), .mp 285 true Y0_64 false (.int .i64), .cell (.sl 254 Y0_64), .cell (.sl 254 Y0_64), cI, cI], [], 110, []⟩
def l154_3 (k : Nat) (g3 : Y0_37) (a : List Y0_7) (b c : List Int) (e : List (Y0_70 × Int)) (f h : List Y0_70) (i l : Int) : Option Y0_59 :=
 (bif decide (l < i) then
  ix h l <|
  (bif !(mhas Y0_64 (.int .i64) (rd h l (prep (α := Bool) 24 false)) e) then
   j154_8 k g3 a b c (updD Y0_64 (.int .i64) (rd h l (prep (α := Bool) 24 false)) l e) f l (rd h l (prep (α := Bool) 24 false)).1 (rd h l (prep (α := Bool) 24 false)).2.1 (rd h l (prep (α := Bool) 24 false)).2.2.1 (rd h l (prep (α := Bool) 24 false)).2.2.2.1 (rd h l (prep (α := Bool) 24 false)).2.2.2.2.1 (rd h l (prep (α := Bool) 24 false)).2.2.2.2.2.1 (rd h l (prep (α := Bool) 24 false)).2.2.2.2.2.2.1 (rd h l (prep (α := Bool) 24 false)).2.2.2.2.2.2.2.1 (rd h l (prep (α := Bool) 24 false)).2.2.2.2.2.2.2.2.1 (rd h l (prep (α := Bool) 24 false)).2.2.2.2.2.2.2.2.2.1 (rd h l (prep (α := Bool) 24 false)).2.2.2.2.2.2.2.2.2.2.1 (rd h l (prep (α := Bool) 24 false)).2.2.2.2.2.2.2.2.2.2.2.1 (rd h l (prep (α := Bool) 24 false)).2.2.2.2.2.2.2.2.2.2.2.2.1 (rd h l (prep (α := Bool) 24 false)).2.2.2.2.2.2.2.2.2.2.2.2.2.1 (rd h l (prep (α := Bool) 24 false)).2.2.2.2.2.2.2.2.2.2.2.2.2.2.1 (rd h l (prep (α := Bool) 24 false)).2.2.2.2.2.2.2.2.2.2.2.2.2.2.2.1 (rd h l (prep (α := Bool) 24 false)).2.2.2.2.2.2.2.2.2.2.2.2.2.2.2.2.1 (rd h l (prep (α := Bool) 24 false)).2.2.2.2.2.2.2.2.2.2.2.2.2.2.2.2.2.1 (rd h l (prep (α := Bool) 24 false)).2.2.2.2.2.2.2.2.2.2.2.2.2.2.2.2.2.2.1 (rd h l (prep (α := Bool) 24 false)).2.2.2.2.2.2.2.2.2.2.2.2.2.2.2.2.2.2.2.1 (rd h l (prep (α := Bool) 24 false)).2.2.2.2.2.2.2.2.2.2.2.2.2.2.2.2.2.2.2.2.1 (rd h l (prep (α := Bool) 24 false)).2.2.2.2.2.2.2.2.2.2.2.2.2.2.2.2.2.2.2.2.2.1 (rd h l (prep (α := Bool) 24 false)).2.2.2.2.2.2.2.2.2.2.2.2.2.2.2.2.2.2.2.2.2.2.1 (rd h l (prep (α := Bool) 24 false)).2.2.2.2.2.2.2.2.2.2.2.2.2.2.2.2.2.2.2.2.2.2.2 h i l
  else
   j154_8 k g3 a b c e f l (rd h l (prep (α := Bool) 24 false)).1 (rd h l (prep (α := Bool) 24 false)).2.1 (rd h l (prep (α := Bool) 24 false)).2.2.1 (rd h l (prep (α := Bool) 24 false)).2.2.2.1 (rd h l (prep (α := Bool) 24 false)).2.2.2.2.1 (rd h l (prep (α := Bool) 24 false)).2.2.2.2.2.1 (rd h l (prep (α := Bool) 24 false)).2.2.2.2.2.2.1 (rd h l (prep (α := Bool) 24 false)).2.2.2.2.2.2.2.1 (rd h l (prep (α := Bool) 24 false)).2.2.2.2.2.2.2.2.1 (rd h l (prep (α := Bool) 24 false)).2.2.2.2.2.2.2.2.2.1 (rd h l (prep (α := Bool) 24 false)).2.2.2.2.2.2.2.2.2.2.1 (rd h l (prep (α := Bool) 24 false)).2.2.2.2.2.2.2.2.2.2.2.1 (rd h l (prep (α := Bool) 24 false)).2.2.2.2.2.2.2.2.2.2.2.2.1 (rd h l (prep (α := Bool) 24 false)).2.2.2.2.2.2.2.2.2.2.2.2.2.1 (rd h l (prep (α := Bool) 24 false)).2.2.2.2.2.2.2.2.2.2.2.2.2.2.1 (rd h l (prep (α := Bool) 24 false)).2.2.2.2.2.2.2.2.2.2.2.2.2.2.2.1 (rd h l (prep (α := Bool) 24 false)).2.2.2.2.2.2.2.2.2.2.2.2.2.2.2.2.1 (rd h l (prep (α := Bool) 24 false)).2.2.2.2.2.2.2.2.2.2.2.2.2.2.2.2.2.1 (rd h l (prep (α := Bool) 24 false)).2.2.2.2.2.2.2.2.2.2.2.2.2.2.2.2.2.2.1 (rd h l (prep (α := Bool) 24 false)).2.2.2.2.2.2.2.2.2.2.2.2.2.2.2.2.2.2.2.1 (rd h l (prep (α := Bool) 24 false)).2.2.2.2.2.2.2.2.2.2.2.2.2.2.2.2.2.2.2.2.1 (rd h l (prep (α := Bool) 24 false)).2.2.2.2.2.2.2.2.2.2.2.2.2.2.2.2.2.2.2.2.2.1 (rd h l (prep (α := Bool) 24 false)).2.2.2.2.2.2.2.2.2.2.2.2.2.2.2.2.2.2.2.2.2.2.1 (rd h l (prep (α := Bool) 24 false)).2.2.2.2.2.2.2.2.2.2.2.2.2.2.2.2.2.2.2.2.2.2.2 h i l)
 else
  (bif decide ((c.length : Int) > 0) then
   some (([], false, ()), ())
  else
   some ((b, true, ()), ())))
def b154_3 (k : Nat) (g : ((Unit) × ((List Y0_7) × Unit) × (List Int) × (List Int) × (List (Y0_70 × Int)) × Y0_27 × Y0_27 × Int × Int × Unit) → Option Y0_59) (d : (Unit) × ((List Y0_7) × Unit) × (List Int) × (List Int) × (List (Y0_70 × Int)) × Y0_27 × Y0_27 × Int × Int × Unit) : Option Y0_59 := l154_3 k (fun a b c e f h i l => g ((), (a, ()), b, c, e, f, h, i, l, ())) d.2.1.1 d.2.2.1 d.2.2.2.1 d.2.2.2.2.1 d.2.2.2.2.2.1 d.2.2.2.2.2.2.1 d.2.2.2.2.2.2.2.1 d.2.2.2.2.2.2.2.2.1
def L154_3 (k a : Nat) (b : List Y0_7) (c e : List Int) (f : List (Y0_70 × Int)) (h i : List Y0_70) (l m : Int) : Option Y0_59 := iter (R := ((List Int) × Bool × Unit) × Unit) c154_L3 (b154_3 k) a ((), (b, ()), c, e, f, h, i, l, m, ())
theorem L154_3_s (k a b c e f h i l m) : L154_3 k (a + 1) b c e f h i l m = l154_3 k (L154_3 k a) b c e f h i l m := iter_succ _ _ _ _
def S154 (k : Nat) (a : List Y0_7) : Option Y0_59 :=
 mk (a.length : Int) (a.length : Int) 8 <|
 (S155 k a).bind fun q0 =>
 L154_3 k k a (List.replicate (a.length : Int).toNat (0 : Int)) ([] : List Int) ([] : List (Y0_70 × Int)) q0.1.1 q0.1.1 (q0.1.1.length : Int) 0
def F154 : Fn := ⟨[.val ⟨false, Y0_25, false⟩], [.val ⟨false, Y0_18, true⟩, .val ⟨false, .bool, true⟩], fun k x => S154 k x.1⟩
theorem ok154 : FnOK Tryz.prog 154 F154 := okF [(155, F155), (156, F156a)] [(104, 1)] (fun k => (.loop 3 c154_L3 (b154_3 k) (fun g => (fun (g3 : Y0_37) => (.join 8 c154_J8 (fun d => j154_8 k g3 d.2.1.1 d.2.2.1 d.2.2.2.1 d.2.2.2.2.1 d.2.2.2.2.2.1 d.2.2.2.2.2.2.1.1 d.2.2.2.2.2.2.2.1.1 d.2.2.2.2.2.2.2.1.2.1 d.2.2.2.2.2.2.2.1.2.2.1 d.2.2.2.2.2.2.2.1.2.2.2.1 d.2.2.2.2.2.2.2.1.2.2.2.2.1 d.2.2.2.2.2.2.2.1.2.2.2.2.2.1 d.2.2.2.2.2.2.2.1.2.2.2.2.2.2.1 d.2.2.2.2.2.2.2.1.2.2.2.2.2.2.2.1 d.2.2.2.2.2.2.2.1.2.2.2.2.2.2.2.2.1 d.2.2.2.2.2.2.2.1.2.2.2.2.2.2.2.2.2.1 d.2.2.2.2.2.2.2.1.2.2.2.2.2.2.2.2.2.2.1 d.2.2.2.2.2.2.2.1.2.2.2.2.2.2.2.2.2.2.2.1 d.2.2.2.2.2.2.2.1.2.2.2.2.2.2.2.2.2.2.2.2.1 d.2.2.2.2.2.2.2.1.2.2.2.2.2.2.2.2.2.2.2.2.2.1 d.2.2.2.2.2.2.2.1.2.2.2.2.2.2.2.2.2.2.2.2.2.2.1 d.2.2.2.2.2.2.2.1.2.2.2.2.2.2.2.2.2.2.2.2.2.2.2.1 d.2.2.2.2.2.2.2.1.2.2.2.2.2.2.2.2.2.2.2.2.2.2.2.2.1 d.2.2.2.2.2.2.2.1.2.2.2.2.2.2.2.2.2.2.2.2.2.2.2.2.2.1 d.2.2.2.2.2.2.2.1.2.2.2.2.2.2.2.2.2.2.2.2.2.2.2.2.2.2.1 d.2.2.2.2.2.2.2.1.2.2.2.2.2.2.2.2.2.2.2.2.2.2.2.2.2.2.2.1 d.2.2.2.2.2.2.2.1.2.2.2.2.2.2.2.2.2.2.2.2.2.2.2.2.2.2.2.2.1 d.2.2.2.2.2.2.2.1.2.2.2.2.2.2.2.2.2.2.2.2.2.2.2.2.2.2.2.2.2.1 d.2.2.2.2.2.2.2.1.2.2.2.2.2.2.2.2.2.2.2.2.2.2.2.2.2.2.2.2.2.2.1 d.2.2.2.2.2.2.2.1.2.2.2.2.2.2.2.2.2.2.2.2.2.2.2.2.2.2.2.2.2.2.2.1 d.2.2.2.2.2.2.2.2.1 d.2.2.2.2.2.2.2.2.2.1 d.2.2.2.2.2.2.2.2.2.2.1) .nil)) (fun l_1 out open_ same all t20 t21 t22 => g ((), (l_1, ()), out, open_, same, all, t20, t21, t22, ()))) .nil)) ⟨ok155, ok156a, trivial⟩ Tryz.func154 rfl
def S157 (k : Nat) (a b : Int) : Option Y0_15 :=
 some ((decide (a > b), ()), ())
def F157 : Fn := ⟨[.val ⟨false, (.int .i64), false⟩, .pv (.ref (.int .i64))], [.val ⟨false, .bool, true⟩], fun k x => S157 k x.1 x.2.1⟩
theorem ok157 : FnOK Tryz.prog 157 F157 := okF [] [] (fun k => .nil) trivial Tryz.func157 rfl
abbrev c131b_L2 : Cut := ⟨[0, 1, 7, 8], [.cell Y0_18, .clo 157 [.ref (.int .i64)], cI, cI], [], 19, []⟩
def l131b_2 (k : Nat) (g2 : (List Int) → Int → Int → Int → Option Y0_12) (a : List Int) (b c e : Int) : Option Y0_12 :=
 (bif decide (e < c) then
  ix a e <|
  (S157 k (rd a e 0) b).bind fun q0 =>
  (bif q0.1.1 then
   some ((e, ()), ())
  else
   g2 a b c (IntKind.i64.wrap (e + 1)))
 else
  some (((-1), ()), ()))
def b131b_2 (k : Nat) (g : ((Unit) × (List Int) × Y0_53 × Int × Int × Unit) → Option Y0_12) (d : (Unit) × (List Int) × Y0_53 × Int × Int × Unit) : Option Y0_12 := l131b_2 k (fun a b c e => g ((), a, (b, ()), c, e, ())) d.2.1 d.2.2.1.1 d.2.2.2.1 d.2.2.2.2.1
def L131b_2 (k a : Nat) (b : List Int) (c e f : Int) : Option Y0_12 := iter (R := Y0_53 × Unit) c131b_L2 (b131b_2 k) a ((), b, (c, ()), e, f, ())
theorem L131b_2_s (k a b c e f) : L131b_2 k (a + 1) b c e f = l131b_2 k (L131b_2 k a) b c e f := iter_succ _ _ _ _
def S131b (k : Nat) (a : List Int) (b : Int) : Option Y0_12 :=
 L131b_2 k k a b (a.length : Int) 0
def F131b : Fn := ⟨[.val ⟨false, Y0_18, false⟩, .pv (.clo 157 [.ref (.int .i64)])], [.val ⟨false, (.int .i64), true⟩], fun k x => S131b k x.1 x.2.1.1⟩
theorem ok131b : FnOK Tryz.prog 131 F131b := okF [(157, F157)] [] (fun k => (.loop 2 c131b_L2 (b131b_2 k) (fun g => .nil) .nil)) ⟨ok157, trivial⟩ Tryz.func131 rfl
def S156b (k : Nat) (a : List Int) (b : Int) : Option Y0_15 :=
 (S131b k a b).bind fun q0 =>
 some ((decide (q0.1.1 ≥ 0), ()), ())
def F156b : Fn := ⟨[.val ⟨false, Y0_18, false⟩, .pv (.clo 157 [.ref (.int .i64)])], [.val ⟨false, .bool, true⟩], fun k x => S156b k x.1 x.2.1.1⟩
theorem ok156b : FnOK Tryz.prog 156 F156b := okF [(131, F131b)] [] (fun k => .nil) ⟨ok131b, trivial⟩ Tryz.func156 rfl
abbrev c102_L11 : Cut := ⟨[4, 6, 42, 43, 44], [.own 3 (.int .i64), .own 254 Y0_64, .cell Y0_25, cI, cI], [], 66, []⟩
def l102_11 (k : Nat) (g11 : (List Int) → Y0_27 → (List Y0_7) → Int → Int → Option Y0_15) (a : List Int) (b : List Y0_70) (c : List Y0_7) (e f : Int) : Option Y0_15 :=
 (bif decide (f < e) then
  ix c f <|
  (bif (rd c f (0, 0, 0, 0)).1 != 11 then
   g11 a b c e (IntKind.i64.wrap (f + 1))
  else
   ix b f <|
   (bif !(beqD Y0_64 (rd b f (prep (α := Bool) 24 false)) (false, false, false, false, false, false, false, false, false, false, false, false, false, false, false, false, false, false, false, false, false, false, false, false)) then
    some ((false, ()), ())
   else
    sx a 0 f <|
    (S156b k (sub a 0 f) f).bind fun q5 =>
    (bif q5.1.1 then
     some ((false, ()), ())
    else
     g11 a b c e (IntKind.i64.wrap (f + 1)))))
 else
  some ((true, ()), ()))
def b102_11 (k : Nat) (g : ((Unit) × (List Int) × Y0_27 × (List Y0_7) × Int × Int × Unit) → Option Y0_15) (d : (Unit) × (List Int) × Y0_27 × (List Y0_7) × Int × Int × Unit) : Option Y0_15 := l102_11 k (fun a b c e f => g ((), a, b, c, e, f, ())) d.2.1 d.2.2.1 d.2.2.2.1 d.2.2.2.2.1 d.2.2.2.2.2.1
def L102_11 (k a : Nat) (b : List Int) (c : List Y0_70) (e : List Y0_7) (f h : Int) : Option Y0_15 := iter (R := (Bool × Unit) × Unit) c102_L11 (b102_11 k) a ((), b, c, e, f, h, ())
theorem L102_11_s (k a b c e f h) : L102_11 k (a + 1) b c e f h = l102_11 k (L102_11 k a) b c e f h := iter_succ _ _ _ _
def S102 (k : Nat) (a : List Y0_7) : Option Y0_15 :=
 (bif decide ((a.length : Int) < 1) then
  some ((false, ()), ())
 else
  (bif decide ((a.length : Int) > 24) then
   some ((false, ()), ())
  else
   (S68 k a).bind fun q0 =>
   (bif q0.1.1 then
    some ((false, ()), ())
   else
    (S115a k a).bind fun q1 =>
    (bif q1.1.1 != (IntKind.i64.wrap ((a.length : Int) - 1)) then
     some ((false, ()), ())
    else
     (S153 k a).bind fun q2 =>
     (bif !q2.1.1 then
      some ((false, ()), ())
     else
      (S154 k a).bind fun q3 =>
      (bif !q3.1.2.1 then
       some ((false, ()), ())
      else
       (S155 k a).bind fun q4 =>
       L102_11 k k q3.1.1 q4.1.1 a (a.length : Int) 0))))))
def F102 : Fn := ⟨[.val ⟨false, Y0_25, false⟩], [.val ⟨false, .bool, true⟩], fun k x => S102 k x.1⟩
theorem ok102 : FnOK Tryz.prog 102 F102 := okF [(68, F68), (115, F115a), (153, F153), (154, F154), (155, F155), (156, F156b)] [] (fun k => (.loop 11 c102_L11 (b102_11 k) (fun g => .nil) .nil)) ⟨ok68, ok115a, ok153, ok154, ok155, ok156b, trivial⟩ Tryz.func102 rfl
def S103 (k : Nat) (a : List Y0_7) : Option Y0_15 :=
 (bif (a.length : Int) == 0 then
  some ((true, ()), ())
 else
  (S102 k a).bind fun q0 =>
  some ((q0.1.1, ()), ()))
def F103 : Fn := ⟨[.val ⟨false, Y0_25, false⟩], [.val ⟨false, .bool, true⟩], fun k x => S103 k x.1⟩
theorem ok103 : FnOK Tryz.prog 103 F103 := okF [(102, F102)] [] (fun k => .nil) ⟨ok102, trivial⟩ Tryz.func103 rfl
def S158 (k : Nat) (a : Int × Int × Int × Int) : Option Y0_15 :=
 some ((a.1 == 9, ()), ())
def F158 : Fn := ⟨[.val ⟨true, Y0_6, false⟩], [.val ⟨false, .bool, true⟩], fun k x => S158 k x.1⟩
theorem ok158 : FnOK Tryz.prog 158 F158 := okF [] [] (fun k => .nil) trivial Tryz.func158 rfl
abbrev c115b_L2 : Cut := ⟨[0, 1, 7, 8], [.cell Y0_25, .clo 158 [], cI, cI], [], 19, []⟩
def l115b_2 (k : Nat) (g2 : (List Y0_7) → Int → Int → Option Y0_12) (a : List Y0_7) (b c : Int) : Option Y0_12 :=
 (bif decide (c < b) then
  ix a c <|
  (S158 k (rd a c (0, 0, 0, 0))).bind fun q0 =>
  (bif q0.1.1 then
   some ((c, ()), ())
  else
   g2 a b (IntKind.i64.wrap (c + 1)))
 else
  some (((-1), ()), ()))
def b115b_2 (k : Nat) (g : Y0_63) (d : (Unit) × (List Y0_7) × Unit × Int × Int × Unit) : Option Y0_12 := l115b_2 k (fun a b c => g ((), a, (), b, c, ())) d.2.1 d.2.2.2.1 d.2.2.2.2.1
def L115b_2 (k a : Nat) (b : List Y0_7) (c e : Int) : Option Y0_12 := iter (R := Y0_53 × Unit) c115b_L2 (b115b_2 k) a ((), b, (), c, e, ())
theorem L115b_2_s (k a b c e) : L115b_2 k (a + 1) b c e = l115b_2 k (L115b_2 k a) b c e := iter_succ _ _ _ _
def S115b (k : Nat) (a : List Y0_7) : Option Y0_12 :=
 L115b_2 k k a (a.length : Int) 0
def F115b : Fn := ⟨[.val ⟨false, Y0_25, false⟩, .pv (.clo 158 [])], [.val ⟨false, (.int .i64), true⟩], fun k x => S115b k x.1⟩
theorem ok115b : FnOK Tryz.prog 115 F115b := okF [(158, F158)] [] (fun k => (.loop 2 c115b_L2 (b115b_2 k) (fun g => .nil) .nil)) ⟨ok158, trivial⟩ Tryz.func115 rfl
def S68a (k : Nat) (a : List Y0_7) : Option Y0_15 :=
 (S115b k a).bind fun q0 =>
 some ((decide (q0.1.1 ≥ 0), ()), ())
def F68a : Fn := ⟨[.val ⟨false, Y0_25, false⟩, .pv (.clo 158 [])], [.val ⟨false, .bool, true⟩], fun k x => S68a k x.1⟩
theorem ok68a : FnOK Tryz.prog 68 F68a := okF [(115, F115b)] [] (fun k => .nil) ⟨ok115b, trivial⟩ Tryz.func68 rfl
def S104 (k : Nat) (a : List Y0_7) : Option Y0_15 :=
 (S68a k a).bind fun q0 =>
 some ((q0.1.1, ()), ())
def F104 : Fn := ⟨[.val ⟨false, Y0_25, false⟩], [.val ⟨false, .bool, true⟩], fun k x => S104 k x.1⟩
theorem ok104 : FnOK Tryz.prog 104 F104 := okF [(68, F68a)] [] (fun k => .nil) ⟨ok68a, trivial⟩ Tryz.func104 rfl
def S192 (k : Nat) (a : Int) : Option Y0_12 :=
 (bif decide (a < 0) then
  some ((IntKind.u64.wrap (0 - (IntKind.u64.wrap a)), ()), ())
 else
  some ((IntKind.u64.wrap a, ()), ()))
def F192 : Fn := ⟨[.val ⟨false, (.int .i64), false⟩], [.val ⟨false, (.int .u64), true⟩], fun k x => S192 k x.1⟩
theorem ok192 : FnOK Tryz.prog 192 F192 := okF [] [] (fun k => .nil) trivial Tryz.func192 rfl
def S191 (k : Nat) (a b : Int) : Option Y0_34 :=
 (bif decide ((ishr .u64 a 32) > 0) then
  (bif decide ((ishr .u64 b 32) > 0) then
   some ((0, false, ()), ())
  else
   (bif decide ((ishr .u64 (ior .u64 (IntKind.u64.wrap ((ishr .u64 a 32) * (IntKind.u64.wrap (IntKind.u32.wrap b)))) (IntKind.u64.wrap ((IntKind.u64.wrap (IntKind.u32.wrap a)) * (ishr .u64 b 32)))) 32) > 0) then
    some ((0, false, ()), ())
   else
    some ((IntKind.u64.wrap ((IntKind.u64.wrap ((IntKind.u64.wrap (IntKind.u32.wrap a)) * (IntKind.u64.wrap (IntKind.u32.wrap b)))) + (ishl .u64 (ior .u64 (IntKind.u64.wrap ((ishr .u64 a 32) * (IntKind.u64.wrap (IntKind.u32.wrap b)))) (IntKind.u64.wrap ((IntKind.u64.wrap (IntKind.u32.wrap a)) * (ishr .u64 b 32)))) 32)), decide ((IntKind.u64.wrap ((IntKind.u64.wrap ((IntKind.u64.wrap (IntKind.u32.wrap a)) * (IntKind.u64.wrap (IntKind.u32.wrap b)))) + (ishl .u64 (ior .u64 (IntKind.u64.wrap ((ishr .u64 a 32) * (IntKind.u64.wrap (IntKind.u32.wrap b)))) (IntKind.u64.wrap ((IntKind.u64.wrap (IntKind.u32.wrap a)) * (ishr .u64 b 32)))) 32))) ≥ (IntKind.u64.wrap ((IntKind.u64.wrap (IntKind.u32.wrap a)) * (IntKind.u64.wrap (IntKind.u32.wrap b))))), ()), ())))
 else
  (bif decide ((ishr .u64 (ior .u64 (IntKind.u64.wrap ((ishr .u64 a 32) * (IntKind.u64.wrap (IntKind.u32.wrap b)))) (IntKind.u64.wrap ((IntKind.u64.wrap (IntKind.u32.wrap a)) * (ishr .u64 b 32)))) 32) > 0) then
   some ((0, false, ()), ())
  else
   some ((IntKind.u64.wrap ((IntKind.u64.wrap ((IntKind.u64.wrap (IntKind.u32.wrap a)) * (IntKind.u64.wrap (IntKind.u32.wrap b)))) + (ishl .u64 (ior .u64 (IntKind.u64.wrap ((ishr .u64 a 32) * (IntKind.u64.wrap (IntKind.u32.wrap b)))) (IntKind.u64.wrap ((IntKind.u64.wrap (IntKind.u32.wrap a)) * (ishr .u64 b 32)))) 32)), decide ((IntKind.u64.wrap ((IntKind.u64.wrap ((IntKind.u64.wrap (IntKind.u32.wrap a)) * (IntKind.u64.wrap (IntKind.u32.wrap b)))) + (ishl .u64 (ior .u64 (IntKind.u64.wrap ((ishr .u64 a 32) * (IntKind.u64.wrap (IntKind.u32.wrap b)))) (IntKind.u64.wrap ((IntKind.u64.wrap (IntKind.u32.wrap a)) * (ishr .u64 b 32)))) 32))) ≥ (IntKind.u64.wrap ((IntKind.u64.wrap (IntKind.u32.wrap a)) * (IntKind.u64.wrap (IntKind.u32.wrap b))))), ()), ())))
def F191 : Fn := ⟨[.val ⟨false, (.int .u64), false⟩, .val ⟨false, (.int .u64), false⟩], [.val ⟨false, (.int .u64), true⟩, .val ⟨false, .bool, true⟩], fun k x => S191 k x.1 x.2.1⟩
theorem ok191 : FnOK Tryz.prog 191 F191 := okF [] [] (fun k => .nil) trivial Tryz.func191 rfl
def S193 (k : Nat) (a : Bool) : Option Y0_34 :=
 (bif a then
  some (((-9223372036854775808), false, ()), ())
 else
  some ((9223372036854775807, false, ()), ()))
def F193 : Fn := ⟨[.val ⟨false, .bool, false⟩], [.val ⟨false, (.int .i64), true⟩, .val ⟨false, .bool, true⟩], fun k x => S193 k x.1⟩
theorem ok193 : FnOK Tryz.prog 193 F193 := okF [] [] (fun k => .nil) trivial Tryz.func193 rfl
abbrev c186_J5 : Cut := ⟨[0, 1, 6, 7], [cI, cI, .cell .bool, .cell (.int .u64)], [], 45, []⟩
def j186_5 (k : Nat) (a b : Int) (c : Bool) (e : Int) : Option Y0_34 :=
 (S192 k a).bind fun q0 =>
 (S192 k b).bind fun q1 =>
 (S191 k q0.1.1 q1.1.1).bind fun q2 =>
 (bif !q2.1.2.1 then
  (S193 k c).bind fun q3 =>
  some (q3.1, ())
 else
  (bif decide (q2.1.1 > e) then
   (S193 k c).bind fun q4 =>
   some (q4.1, ())
  else
   (bif c then
    some ((IntKind.i64.wrap (IntKind.u64.wrap (0 - q2.1.1)), true, ()), ())
   else
    some ((IntKind.i64.wrap q2.1.1, true, ()), ()))))
def S186 (k : Nat) (a b : Int) : Option Y0_34 :=
 (bif !((decide (a < 0)) == (decide (b < 0))) then
  j186_5 k a b (!((decide (a < 0)) == (decide (b < 0)))) 9223372036854775808
 else
  j186_5 k a b (!((decide (a < 0)) == (decide (b < 0)))) 9223372036854775807)
def F186 : Fn := ⟨[.val ⟨false, (.int .i64), false⟩, .val ⟨false, (.int .i64), false⟩], [.val ⟨false, (.int .i64), true⟩, .val ⟨false, .bool, true⟩], fun k x => S186 k x.1 x.2.1⟩
theorem ok186 : FnOK Tryz.prog 186 F186 := okF [(191, F191), (192, F192), (193, F193)] [] (fun k => (.join 5 c186_J5 (fun d => j186_5 k d.2.1 d.2.2.1 d.2.2.2.1 d.2.2.2.2.1) .nil)) ⟨ok191, ok192, ok193, trivial⟩ Tryz.func186 rfl
abbrev c183_L12 : Cut := ⟨[3, 5, 6, 7, 20, 21, 22], [.own 2 (.int .i64), cI, .box 40 [cI, cI, cI, cI], cI, .cell Y0_25, cI, cI], [], 55, []⟩
def l183_12 (k : Nat) (g8 : Y0_48) (g12 : (List Int) → Int → Int → Int → Int → Int → Int → (List Y0_7) → Int → Int → Option Y0_19) (a : List Int) (b x c e f h : Int) (i : List Y0_7) (l m : Int) : Option Y0_19 :=
 (bif decide (h ≤ (IntKind.i64.wrap (b + e))) then
  ix a h <|
  (S186 k (rd a h 0) f).bind fun q0 =>
  ix a h <|
  g12 (upd a h q0.1.1) b x c e f (IntKind.i64.wrap (h + 1)) i l m
 else
  g8 a i l (IntKind.i64.wrap (m + 1)))
def b183_12 (k : Nat) (g8 : Y0_48) (g : ((Unit) × (List Int) × Int × (Int × Int × Int × Int × Unit) × Int × (List Y0_7) × Int × Int × Unit) → Option Y0_19) (d : (Unit) × (List Int) × Int × (Int × Int × Int × Int × Unit) × Int × (List Y0_7) × Int × Int × Unit) : Option Y0_19 := l183_12 k g8 (fun a b x c e f h i l m => g ((), a, b, (x, c, e, f, ()), h, i, l, m, ())) d.2.1 d.2.2.1 d.2.2.2.1.1 d.2.2.2.1.2.1 d.2.2.2.1.2.2.1 d.2.2.2.1.2.2.2.1 d.2.2.2.2.1 d.2.2.2.2.2.1 d.2.2.2.2.2.2.1 d.2.2.2.2.2.2.2.1
def L183_12 (k : Nat) (g8 : Y0_48) (a : Nat) (b : List Int) (c x e f h i : Int) (l : List Y0_7) (m n : Int) : Option Y0_19 := iter (R := ((List Int) × Unit) × Unit) c183_L12 (b183_12 k g8) a ((), b, c, (x, e, f, h, ()), i, l, m, n, ())
theorem L183_12_s (k g8 a b c x e f h i l m n) : L183_12 k g8 (a + 1) b c x e f h i l m n = l183_12 k g8 (L183_12 k g8 a) b c x e f h i l m n := iter_succ _ _ _ _
abbrev c183_L8 : Cut := ⟨[3, 20, 21, 22], [.own 2 (.int .i64), .cell Y0_25, cI, cI], [], 55, []⟩
def l183_8 (k : Nat) (g8 : Y0_48) (a : List Int) (b : List Y0_7) (c e : Int) : Option Y0_19 :=
 (bif decide (e < c) then
  ix b e <|
  (bif (rd b e (0, 0, 0, 0)).1 != 8 then
   g8 a b c (IntKind.i64.wrap (e + 1))
  else
   L183_12 k g8 k a e (rd b e (0, 0, 0, 0)).1 (rd b e (0, 0, 0, 0)).2.1 (rd b e (0, 0, 0, 0)).2.2.1 (rd b e (0, 0, 0, 0)).2.2.2 (IntKind.i64.wrap (e + 1)) b c e)
 else
  some ((a, ()), ()))
def b183_8 (k : Nat) (g : ((Unit) × (List Int) × (List Y0_7) × Int × Int × Unit) → Option Y0_19) (d : (Unit) × (List Int) × (List Y0_7) × Int × Int × Unit) : Option Y0_19 := l183_8 k (fun a b c e => g ((), a, b, c, e, ())) d.2.1 d.2.2.1 d.2.2.2.1 d.2.2.2.2.1
def L183_8 (k a : Nat) (b : List Int) (c : List Y0_7) (e f : Int) : Option Y0_19 := iter (R := ((List Int) × Unit) × Unit) c183_L8 (b183_8 k) a ((), b, c, e, f, ())
theorem L183_8_s (k a b c e f) : L183_8 k (a + 1) b c e f = l183_8 k (L183_8 k a) b c e f := iter_succ _ _ _ _
abbrev c183_L3 : Cut := ⟨[0, 3, 12, 13], [.cell Y0_25, .own 2 (.int .i64), cI, cI], [], 55, []⟩
def l183_3 (k : Nat) (g3 : (List Y0_7) → (List Int) → Int → Int → Option Y0_19) (a : List Y0_7) (b : List Int) (c e : Int) : Option Y0_19 :=
 (bif decide (e < c) then
  ix b e <|
  g3 a (upd b e 1) c (IntKind.i64.wrap (e + 1))
 else
  L183_8 k k b a (a.length : Int) 0)
def b183_3 (k : Nat) (g : ((Unit) × (List Y0_7) × (List Int) × Int × Int × Unit) → Option Y0_19) (d : (Unit) × (List Y0_7) × (List Int) × Int × Int × Unit) : Option Y0_19 := l183_3 k (fun a b c e => g ((), a, b, c, e, ())) d.2.1 d.2.2.1 d.2.2.2.1 d.2.2.2.2.1
def L183_3 (k a : Nat) (b : List Y0_7) (c : List Int) (e f : Int) : Option Y0_19 := iter (R := ((List Int) × Unit) × Unit) c183_L3 (b183_3 k) a ((), b, c, e, f, ())
theorem L183_3_s (k a b c e f) : L183_3 k (a + 1) b c e f = l183_3 k (L183_3 k a) b c e f := iter_succ _ _ _ _
def S183 (k : Nat) (a : List Y0_7) : Option Y0_19 :=
 mk (a.length : Int) (a.length : Int) 8 <|
 L183_3 k k a (List.replicate (a.length : Int).toNat (0 : Int)) ((List.replicate (a.length : Int).toNat (0 : Int)).length : Int) 0
def F183 : Fn := ⟨[.val ⟨false, Y0_25, false⟩], [.val ⟨false, Y0_62, true⟩], fun k x => S183 k x.1⟩
theorem ok183 : FnOK Tryz.prog 183 F183 := okF [(186, F186)] [] (fun k => (.loop 8 c183_L8 (b183_8 k) (fun g => (fun (g8 : Y0_48) => (.loop 12 c183_L12 (b183_12 k g8) (fun g => .nil) .nil)) (fun out1 t20 t21 t22 => g ((), out1, t20, t21, t22, ()))) (.loop 3 c183_L3 (b183_3 k) (fun g => .nil) .nil))) ⟨ok186, trivial⟩ Tryz.func183 rfl
def S187 (k : Nat) (a b : Int) : Option Y0_34 :=
 (bif decide ((iand .i64 (ixor .i64 a (IntKind.i64.wrap (IntKind.u64.wrap ((IntKind.u64.wrap a) + (IntKind.u64.wrap b))))) (ixor .i64 b (IntKind.i64.wrap (IntKind.u64.wrap ((IntKind.u64.wrap a) + (IntKind.u64.wrap b)))))) < 0) then
  (S193 k (decide (a < 0))).bind fun q0 =>
  some (q0.1, ())
 else
  some ((IntKind.i64.wrap (IntKind.u64.wrap ((IntKind.u64.wrap a) + (IntKind.u64.wrap b))), true, ()), ()))
def F187 : Fn := ⟨[.val ⟨false, (.int .i64), false⟩, .val ⟨false, (.int .i64), false⟩], [.val ⟨false, (.int .i64), true⟩, .val ⟨false, .bool, true⟩], fun k x => S187 k x.1 x.2.1⟩
theorem ok187 : FnOK Tryz.prog 187 F187 := okF [(193, F193)] [] (fun k => .nil) ⟨ok193, trivial⟩ Tryz.func187 rfl
abbrev c184_L2 : Cut := ⟨[2, 5, 6, 7], [cI, .cell Y0_62, cI, cI], [], 19, []⟩
def l184_2 (k : Nat) (g2 : Y0_46) (a : Int) (b : List Int) (c e : Int) : Option Y0_12 :=
 (bif decide (e < c) then
  ix b e <|
  (S187 k a (rd b e 0)).bind fun q0 =>
  g2 q0.1.1 b c (IntKind.i64.wrap (e + 1))
 else
  some ((a, ()), ()))
def b184_2 (k : Nat) (g : ((Unit) × Int × (List Int) × Int × Int × Unit) → Option Y0_12) (d : (Unit) × Int × (List Int) × Int × Int × Unit) : Option Y0_12 := l184_2 k (fun a b c e => g ((), a, b, c, e, ())) d.2.1 d.2.2.1 d.2.2.2.1 d.2.2.2.2.1
def L184_2 (k a : Nat) (b : Int) (c : List Int) (e f : Int) : Option Y0_12 := iter (R := Y0_53 × Unit) c184_L2 (b184_2 k) a ((), b, c, e, f, ())
theorem L184_2_s (k a b c e f) : L184_2 k (a + 1) b c e f = l184_2 k (L184_2 k a) b c e f := iter_succ _ _ _ _
def S184 (k : Nat) (a : List Int) : Option Y0_12 :=
 L184_2 k k 0 a (a.length : Int) 0
def F184 : Fn := ⟨[.val ⟨false, Y0_62, false⟩], [.val ⟨false, (.int .i64), true⟩], fun k x => S184 k x.1⟩
theorem ok184 : FnOK Tryz.prog 184 F184 := okF [(187, F187)] [] (fun k => (.loop 2 c184_L2 (b184_2 k) (fun g => .nil) .nil)) ⟨ok187, trivial⟩ Tryz.func184 rfl
abbrev c159_L7 : Cut := ⟨[2, 4, 5, 6, 24, 25, 26], [.box 257 [cI, cI, .own 267 Y0_16], .own 2 (.int .i64), cI, .own 3 (.int .i64), .cell Y0_25, cI, cI], [], 75, []⟩
def l159_7 (k : Nat) (g7 : Int → Int → Y0_14 → (List Int) → Int → (List Int) → (List Y0_7) → Int → Int → Option Y0_42) (a b : Int) (c : Y0_31) (e : List Int) (f : Int) (h : List Int) (i : List Y0_7) (l m : Int) : Option Y0_42 :=
 (bif decide (m < l) then
  ix i m <|
  (bif (rd i m (0, 0, 0, 0)).1 == 11 then
   sx e f (IntKind.i64.wrap (m + 1)) <|
   (S184 k (sub e f (IntKind.i64.wrap (m + 1)))).bind fun q4 =>
   g7 a (mx b q4.1.1) c e (IntKind.i64.wrap (m + 1)) h i l (IntKind.i64.wrap (m + 1))
  else
   (bif (rd i m (0, 0, 0, 0)).1 == 0 then
    sx e f (IntKind.i64.wrap (m + 1)) <|
    (S184 k (sub e f (IntKind.i64.wrap (m + 1)))).bind fun q5 =>
    g7 a (mx b q5.1.1) c e (IntKind.i64.wrap (m + 1)) h i l (IntKind.i64.wrap (m + 1))
   else
    (bif (rd i m (0, 0, 0, 0)).1 == 9 then
     ix h m <|
     sx e (IntKind.i64.wrap (m + 1)) (IntKind.i64.wrap ((rd h m 0) + 1)) <|
     (S184 k (sub e (IntKind.i64.wrap (m + 1)) (IntKind.i64.wrap ((rd h m 0) + 1)))).bind fun q6 =>
     ix e m <|
     nz (rd e m 0) <|
     ap c ([((rd i m (0, 0, 0, 0)).2.1, IntKind.i64.wrap (Int.tdiv q6.1.1 (rd e m 0)))] : List (Int × Int)) 16 fun r7 =>
     g7 a b r7 e f h i l (IntKind.i64.wrap (m + 1))
    else
     g7 a b c e f h i l (IntKind.i64.wrap (m + 1)))))
 else
  some (((a, b, c), true, ()), ()))
def b159_7 (k : Nat) (g : ((Unit) × (Int × Int × Y0_14 × Unit) × (List Int) × Int × (List Int) × (List Y0_7) × Int × Int × Unit) → Option Y0_42) (d : (Unit) × (Int × Int × Y0_14 × Unit) × (List Int) × Int × (List Int) × (List Y0_7) × Int × Int × Unit) : Option Y0_42 := l159_7 k (fun a b c e f h i l m => g ((), (a, b, c, ()), e, f, h, i, l, m, ())) d.2.1.1 d.2.1.2.1 d.2.1.2.2.1 d.2.2.1 d.2.2.2.1 d.2.2.2.2.1 d.2.2.2.2.2.1 d.2.2.2.2.2.2.1 d.2.2.2.2.2.2.2.1
def L159_7 (k a : Nat) (b c : Int) (e : Y0_31) (f : List Int) (h : Int) (i : List Int) (l : List Y0_7) (m n : Int) : Option Y0_42 := iter (R := ((Int × Int × List (Int × Int)) × Bool × Unit) × Unit) c159_L7 (b159_7 k) a ((), (b, c, e, ()), f, h, i, l, m, n, ())
theorem L159_7_s (k a b c e f h i l m n) : L159_7 k (a + 1) b c e f h i l m n = l159_7 k (L159_7 k a) b c e f h i l m n := iter_succ _ _ _ _
def S159 (k : Nat) (a : List Y0_7) : Option Y0_42 :=
 (S102 k a).bind fun q0 =>
 (bif !q0.1.1 then
  some (((0, 0, []), false, ()), ())
 else
  (S183 k a).bind fun q1 =>
  (S154 k a).bind fun q2 =>
  (S184 k q1.1.1).bind fun q3 =>
  L159_7 k k q3.1.1 0 ([] : List (Int × Int)) q1.1.1 0 q2.1.1 a (a.length : Int) 0)
def F159 : Fn := ⟨[.val ⟨false, Y0_25, false⟩], [.val ⟨true, (.pair (.int .i64) (.pair (.int .i64) (.sl 267 Y0_16))), true⟩, .val ⟨false, .bool, true⟩], fun k x => S159 k x.1⟩
theorem ok159 : FnOK Tryz.prog 159 F159 := okF [(102, F102), (154, F154), (183, F183), (184, F184)] [(2, 2)] (fun k => (.loop 7 c159_L7 (b159_7 k) (fun g => .nil) .nil)) ⟨ok102, ok154, ok183, ok184, trivial⟩ Tryz.func159 rfl
def S105 (k : Nat) (a : List Y0_7) : Option Y0_12 :=
 (S159 k a).bind fun q0 =>
 some ((q0.1.1.1, ()), ())
def F105 : Fn := ⟨[.val ⟨false, Y0_25, false⟩], [.val ⟨false, (.int .i64), true⟩], fun k x => S105 k x.1⟩
theorem ok105 : FnOK Tryz.prog 105 F105 := okF [(159, F159)] [] (fun k => .nil) ⟨ok159, trivial⟩ Tryz.func105 rfl
def S58 (k : Nat) (a : Y0_28) : Option Y0_12 :=
 (bif decide (a.1 < 0) then
  some ((1, ()), ())
 else
  (bif decide (a.1 > 63) then
   some ((1, ()), ())
  else
   (bif decide (a.2.1 < 1) then
    some ((9, ()), ())
   else
    (bif decide (a.2.1 > 16384) then
     some ((9, ()), ())
    else
     (bif decide (a.2.2.1 < 1) then
      some ((9, ()), ())
     else
      (bif decide (a.2.2.1 > a.2.1) then
       some ((9, ()), ())
      else
       (S102 k a.2.2.2.1).bind fun q0 =>
       (bif !q0.1.1 then
        some ((2, ()), ())
       else
        (S103 k a.2.2.2.2.1).bind fun q1 =>
        (bif !q1.1.1 then
         some ((2, ()), ())
        else
         (S103 k a.2.2.2.2.2).bind fun q2 =>
         (bif !q2.1.1 then
          some ((2, ()), ())
         else
          (S104 k a.2.2.2.2.2).bind fun q3 =>
          (bif q3.1.1 then
           some ((2, ()), ())
          else
           (S105 k a.2.2.2.1).bind fun q4 =>
           (bif decide (q4.1.1 > a.2.2.1) then
            some ((10, ()), ())
           else
            (S105 k a.2.2.2.2.1).bind fun q5 =>
            (S105 k a.2.2.2.1).bind fun q6 =>
            (bif decide (q5.1.1 > q6.1.1) then
             some ((12, ()), ())
            else
             some ((0, ()), ())))))))))))))
def F58 : Fn := ⟨[.val ⟨true, Y0_1, false⟩], [.val ⟨false, (.int .i64), true⟩], fun k x => S58 k x.1⟩
theorem ok58 : FnOK Tryz.prog 58 F58 := okF [(102, F102), (103, F103), (104, F104), (105, F105)] [] (fun k => .nil) ⟨ok102, ok103, ok104, ok105, trivial⟩ Tryz.func58 rfl
def S45 (k : Nat) (a : List Y0_7) : Option Y0_38 := cloneSem 32 40 Y0_6 k (a, ())
def F45 : Fn := ⟨clonePs 40 Y0_6, cloneRs 40 Y0_6, cloneSem 32 40 Y0_6⟩
theorem ok45 : FnOK Tryz.prog 45 F45 := clone_ok E0_ok mix Tryz.func45 rfl (by kernel_rfl) (by kernel_rfl) (fun k => by kernel_rfl) (fun k xs => by kernel_rfl) (fun k xs => by kernel_rfl)
def S59 (k : Nat) (a : Y0_28) : Option ((Y0_0 × Unit) × Unit) :=
 (S45 k a.2.2.2.1).bind fun q0 =>
 (S45 k a.2.2.2.2.1).bind fun q1 =>
 (S45 k a.2.2.2.2.2).bind fun q2 =>
 some (((a.1, a.2.1, a.2.2.1, q0.1.1, q1.1.1, q2.1.1), ()), ())
def F59 : Fn := ⟨[.val ⟨true, Y0_1, false⟩], [.val ⟨true, Y0_1, true⟩], fun k x => S59 k x.1⟩
theorem ok59 : FnOK Tryz.prog 59 F59 := okF [(45, F45)] [] (fun k => .nil) ⟨ok45, trivial⟩ Tryz.func59 rfl
def S61 (k : Nat) (x a : Y0_28) : Option Y0_15 :=
 some ((decide (x.1 > a.1), ()), ())
def F61 : Fn := ⟨[.val ⟨true, Y0_1, false⟩, .pv (.ref Y0_1)], [.val ⟨false, .bool, true⟩], fun k x => S61 k x.1 x.2.1⟩
theorem ok61 : FnOK Tryz.prog 61 F61 := okF [] [] (fun k => .nil) trivial Tryz.func61 rfl
abbrev c60_L2 : Cut := ⟨[0, 1, 7, 8], [.cell Y0_39, .clo 61 [.ref Y0_1], cI, cI], [], 19, []⟩
def l60_2 (k : Nat) (g2 : (List Y0_0) → Y0_0 → Int → Int → Option Y0_12) (a : List Y0_0) (b : Y0_28) (c e : Int) : Option Y0_12 :=
 (bif decide (e < c) then
  ix a e <|
  (S61 k (rd a e (0, 0, 0, [], [], [])) b).bind fun q0 =>
  (bif q0.1.1 then
   some ((e, ()), ())
  else
   g2 a b c (IntKind.i64.wrap (e + 1)))
 else
  some (((-1), ()), ()))
def b60_2 (k : Nat) (g : ((Unit) × (List Y0_0) × (Y0_0 × Unit) × Int × Int × Unit) → Option Y0_12) (d : (Unit) × (List Y0_0) × (Y0_0 × Unit) × Int × Int × Unit) : Option Y0_12 := l60_2 k (fun a b c e => g ((), a, (b, ()), c, e, ())) d.2.1 d.2.2.1.1 d.2.2.2.1 d.2.2.2.2.1
def L60_2 (k a : Nat) (b : List Y0_0) (c : Y0_28) (e f : Int) : Option Y0_12 := iter (R := Y0_53 × Unit) c60_L2 (b60_2 k) a ((), b, (c, ()), e, f, ())
theorem L60_2_s (k a b c e f) : L60_2 k (a + 1) b c e f = l60_2 k (L60_2 k a) b c e f := iter_succ _ _ _ _
def S60 (k : Nat) (a : List Y0_0) (b : Y0_28) : Option Y0_12 :=
 L60_2 k k a b (a.length : Int) 0
def F60 : Fn := ⟨[.val ⟨false, Y0_39, false⟩, .pv (.clo 61 [.ref Y0_1])], [.val ⟨false, (.int .i64), true⟩], fun k x => S60 k x.1 x.2.1.1⟩
theorem ok60 : FnOK Tryz.prog 60 F60 := okF [(61, F61)] [] (fun k => (.loop 2 c60_L2 (b60_2 k) (fun g => .nil) .nil)) ⟨ok61, trivial⟩ Tryz.func60 rfl
section
variable (w : World) {g n c i g2 m c2 : Nat}
theorem insF62_t : Tryz.prog.underlying 23 = some (.slice 43) ∧ Tryz.prog.underlying 3 = some (.int .i64) ∧ Tryz.prog.underlying 4 = some .bool ∧ Tryz.prog.follows .mixedOrders = true ∧ (∀ w, (Go.sizeOf 43).run Tryz.prog w = .ok 6 w) ∧ Tryz.f62.ntmps = 95 := ⟨by kernel_rfl, by kernel_rfl, by kernel_rfl, by kernel_rfl, fun w => by kernel_rfl, rfl⟩
theorem insF62_none {v u : Value} (hv : (∃ A n c, v = .slice A n c ∧ i ≤ n)) (hu : ∃ A c, u = .slice A m c) (hm : m = 0) : Calls Tryz.prog 62 #[v, .int .i64 i, u] w fun e w' => e = .returned v ∧ w' = w := by
 obtain ⟨t24, t3, t4, mixed, z36, hnt⟩ := insF62_t
 have u24 := run_underlying t24; have u3 := run_underlying t3; have u4 := run_underlying t4
 obtain ⟨A, n, c, rfl, hi⟩ := hv
 obtain ⟨A2, c2, rfl⟩ := hu
 have hi0 : (i : Int) ≤ (n : Int) := by omega
 have hz1 : (m : Int) = 0 := by omega
 cases A <;> (go_enter Tryz.func62, hnt; go_wp2 <;> (go_ret; exact ⟨rfl, rfl⟩))
theorem insF62_end {v : Value} {w' : World} {v' : Value} (hv : (∃ A c, v = .slice A n c)) (hm : 0 < m)
  (hr : ∀ ty, (Builtin.append_ #[23, 23] ty #[v, .slice (some ⟨g2, 0, none⟩) m c2]).run Tryz.prog w = .ok v' w') : Calls Tryz.prog 62 #[v, .int .i64 n, .slice (some ⟨g2, 0, none⟩) m c2] w fun e w1 => e = .returned v' ∧ w1 = w' := by
 obtain ⟨t24, t3, t4, mixed, z36, hnt⟩ := insF62_t
 have u24 := run_underlying t24; have u3 := run_underlying t3; have u4 := run_underlying t4
 have hz1 : ¬ ((m : Int) = 0) := by omega
 obtain ⟨A, c, rfl⟩ := hv
 go_enter Tryz.func62, hnt
 go_wp2_with (at_builtin; refine append_list rfl rfl _ _ rfl rfl (hr _) ?_)
 all_goals (go_ret; exact ⟨rfl, rfl⟩)
theorem insF62_shift {v' v'' : Value} {w' w'' : World} (hi : i < n) (hm : 0 < m) (hroom : n + m ≤ c) (hc63 : c ≤ 9223372036854775807)
  (hov : ∀ lb cb, (callFunc 106 #[.slice (some ⟨g2, 0, none⟩) m c2, .slice (some ⟨g, (i + m) * 6, none⟩) lb cb]).run Tryz.prog w = .ok (.value (.bool false)) w)
  (hcp1 : ∀ ty dc sc, (Builtin.copy_ #[23, 23] ty #[.slice (some ⟨g, (i + m) * 6, none⟩) (n + m - (i + m)) dc, .slice (some ⟨g, i * 6, none⟩) (n + m - i) sc]).run Tryz.prog w.drew = .ok v' w')
  (hcp2 : ∀ ty dc, (Builtin.copy_ #[23, 23] ty #[.slice (some ⟨g, i * 6, none⟩) (n + m - i) dc, .slice (some ⟨g2, 0, none⟩) m c2]).run Tryz.prog w' = .ok v'' w'') :
  Calls Tryz.prog 62 #[.slice (some ⟨g, 0, none⟩) n c, .int .i64 i, .slice (some ⟨g2, 0, none⟩) m c2] w fun e w1 => e = .returned (.slice (some ⟨g, 0, none⟩) (n + m) c) ∧ w1 = w'' := by
 obtain ⟨t24, t3, t4, mixed, z36, hnt⟩ := insF62_t
 have u24 := run_underlying t24; have u3 := run_underlying t3; have u4 := run_underlying t4
 have hz1 : ¬ ((m : Int) = 0) := by omega
 have hz2 : ¬ ((i : Int) = (n : Int)) := by omega
 have hw1 : IntKind.i64.wrap ((i : Int) + (m : Int)) = (i : Int) + (m : Int) := by rw [IntKind.wrap_i64]; omega
 have hb1 : (0 : Int) ≤ (i : Int) + (m : Int) := by omega
 have hin : i ≤ n := by omega
 have htn : ((i : Int) + (m : Int)).toNat = i + m := by omega
 have hb2 : ¬ (c = i + m) := by omega
 have hb3 : (i : Int) ≤ (n : Int) + (m : Int) := by omega
 have hb4 : ¬ (c = i) := by omega
 go_enter Tryz.func62, hnt
 go_wp2_with (simp only [hov])
 go_region_law_o (refine copy_step rfl rfl _ _ (by simp [Act.eval, Act.put]) (by simp [Act.eval, Act.put]) (hcp1 _ _ _) ?_)
 go_wp2_with (at_builtin; refine copy_list rfl rfl _ _ rfl rfl (hcp2 _ _) ?_)
 go_ret
 exact ⟨rfl, rfl⟩
theorem insF62_grow {h G : Nat} {v' v'' : Value} {w0 w' w'' : World} (hi : i < n) (hm : 0 < m) (hnc : n ≤ c) (hroom : c < n + m) (hc63 : n + m ≤ 140737488355328) (hG : n + m ≤ G) (hG63 : G ≤ 9223372036854775807)
  (hrz : ∀ ty, (Builtin.append_ #[23, 3] ty #[.slice (some ⟨g, 0, none⟩) i c, .int .i64 ((n : Int) + (m : Int) - (i : Int))]).run Tryz.prog w = .ok (.slice (some ⟨h, 0, none⟩) (n + m) G) w0)
  (hcp1 : ∀ ty dc, (Builtin.copy_ #[23, 23] ty #[.slice (some ⟨h, i * 6, none⟩) (n + m - i) dc, .slice (some ⟨g2, 0, none⟩) m c2]).run Tryz.prog w0 = .ok v' w')
  (hcp2 : ∀ ty dc sc, (Builtin.copy_ #[23, 23] ty #[.slice (some ⟨h, (i + m) * 6, none⟩) (n + m - (i + m)) dc, .slice (some ⟨g, i * 6, none⟩) (n - i) sc]).run Tryz.prog w'.drew = .ok v'' w'') :
  Calls Tryz.prog 62 #[.slice (some ⟨g, 0, none⟩) n c, .int .i64 i, .slice (some ⟨g2, 0, none⟩) m c2] w fun e w1 => e = .returned (.slice (some ⟨h, 0, none⟩) (n + m) G) ∧ w1 = w'' := by
 obtain ⟨t24, t3, t4, mixed, z36, hnt⟩ := insF62_t
 have u24 := run_underlying t24; have u3 := run_underlying t3; have u4 := run_underlying t4
 have hz1 : ¬ ((m : Int) = 0) := by omega
 have hz2 : ¬ ((i : Int) = (n : Int)) := by omega
 have hz3 : (c : Int) < (n : Int) + (m : Int) := by omega
 have hw1 : IntKind.i64.wrap ((i : Int) + (m : Int)) = (i : Int) + (m : Int) := by rw [IntKind.wrap_i64]; omega
 have hb1 : (0 : Int) ≤ (i : Int) + (m : Int) := by omega
 have hin : i ≤ n := by omega
 have htn : ((i : Int) + (m : Int)).toNat = i + m := by omega
 have hGi : ¬ (G = i) := by omega
 have hGim : ¬ (G = i + m) := by omega
 have hci : ¬ (c = i) := by omega
 have hb3 : (i : Int) ≤ (n : Int) := by omega
 go_enter Tryz.func62, hnt
 go_wp2_with (first
  | (at_builtin; refine append_list rfl rfl _ _ rfl rfl (hrz _) ?_)
  | (at_builtin; refine copy_list rfl rfl _ _ rfl rfl (hcp1 _ _) ?_))
 go_region_law_o (refine copy_step rfl rfl _ _ (by simp [Act.eval, Act.put]) (by simp [Act.eval, Act.put]) (hcp2 _ _ _) ?_)
 go_wp2
 go_ret
 exact ⟨rfl, rfl⟩
end
abbrev P62 : List PT := insPs 43 Y0_1
abbrev R62 : List RT := insRs 43 Y0_1
def S62 (k : Nat) (a : List Y0_0) (b : Int) (c : List Y0_0) : Option (((List Y0_0) × Unit) × Unit) := insSem 96 43 Y0_1 k (a, b, c, ())
def F62 : Fn := ⟨P62, R62, insSem 96 43 Y0_1⟩
def E62 : Env := tab.env (fun _ => none) (fun _ => 0)
theorem E62_ok : EnvOK Tryz.prog E62 := envOK_of tabOK _ _ (fun f F h => by cases h)
theorem ok62 : FnOK Tryz.prog 62 F62 := by
 obtain ⟨i0, z, a1, a2, a3, a4, a5⟩ := (E62_ok.ty 43 (Y0_1) (by kernel_rfl)).info
 have b1 : E62.byt 43 = 96 := by kernel_rfl
 have b2 : Ty.sz (Y0_1) = 6 := rfl
 rw [b1] at a3
 have hz : z.cells.size = 6 := by rw [← Array.length_toList, a5, zeroV_len, b2]
 obtain ⟨t24, t3, t4, mixed, z36, hnt⟩ := insF62_t
 refine ins_ok Tryz.func62 rfl (by kernel_rfl) ?_
 rw [b2, ← a3]
 refine ins_all (S := 23) (z := z) t24 t3 a1 a4 (by rw [a2, b2]) hz (by decide) (by rw [a3]; decide) (fun w i m v u h1 h2 h3 => insF62_none w h1 h2 h3) (fun w n g2 m c2 v v' w' h1 h2 h3 => insF62_end w h1 h2 h3) (fun w g n c i g2 m c2 v' v'' w' w'' h1 h2 h3 h4 h5 h6 hne hg hg2 => insF62_shift w h1 h2 h3 h4 (fun lb cb => ?_) h5 h6) (fun w g n c i g2 m c2 h G v' v'' w0 w' w'' h1 h2 h3 h4 h5 h6 h7 h8 h9 h10 => insF62_grow w h1 h2 h3 h4 h5 h6 h7 h8 h9 h10)
 obtain ⟨cur, q1, q2⟩ := hg
 obtain ⟨cur2, q3⟩ := hg2
 rw [run_callFunc_extern Tryz.func106 (by kernel_rfl) (by kernel_rfl) (by kernel_rfl) (e := Extern.SlicesOverlaps.overlaps #[23, 23] #[4]) (by kernel_rfl), Lib.run_overlaps_apart w 23 4 43 t24 6 z36 ⟨g2, 0, none⟩ ⟨g, (i + m) * 6, none⟩ m c2 lb cb hne 43 43 cur2.size cur.size (by simp [World.shape?, q3]) (by simp [World.shape?, q1]) q2 (Kd.frozen_row q3 _) (Kd.frozen_row q3 _)]
 rfl
abbrev c161_L2 : Cut := ⟨[0, 5, 6, 7], [.cell Y0_39, .cell Y0_39, cI, cI], [], 31, []⟩
def l161_2 (k : Nat) (g2 : (List Y0_0) → (List Y0_0) → Int → Int → Option Y0_15) (a b : List Y0_0) (c e : Int) : Option Y0_15 :=
 (bif decide (e < c) then
  ix b e <|
  (S58 k (rd b e (0, 0, 0, [], [], []))).bind fun q0 =>
  (bif q0.1.1 != 0 then
   some ((false, ()), ())
  else
   (bif decide (e > 0) then
    ix a (IntKind.i64.wrap (e - 1)) <|
    (bif decide ((rd a (IntKind.i64.wrap (e - 1)) (0, 0, 0, [], [], [])).1 ≥ (rd b e (0, 0, 0, [], [], [])).1) then
     some ((false, ()), ())
    else
     g2 a b c (IntKind.i64.wrap (e + 1)))
   else
    g2 a b c (IntKind.i64.wrap (e + 1))))
 else
  some ((true, ()), ()))
def b161_2 (k : Nat) (g : ((Unit) × (List Y0_0) × (List Y0_0) × Int × Int × Unit) → Option Y0_15) (d : (Unit) × (List Y0_0) × (List Y0_0) × Int × Int × Unit) : Option Y0_15 := l161_2 k (fun a b c e => g ((), a, b, c, e, ())) d.2.1 d.2.2.1 d.2.2.2.1 d.2.2.2.2.1
def L161_2 (k a : Nat) (b c : List Y0_0) (e f : Int) : Option Y0_15 := iter (R := (Bool × Unit) × Unit) c161_L2 (b161_2 k) a ((), b, c, e, f, ())
theorem L161_2_s (k a b c e f) : L161_2 k (a + 1) b c e f = l161_2 k (L161_2 k a) b c e f := iter_succ _ _ _ _
def S161 (k : Nat) (a : List Y0_0) : Option Y0_15 :=
 L161_2 k k a a (a.length : Int) 0
def F161 : Fn := ⟨[.val ⟨false, Y0_39, false⟩], [.val ⟨false, .bool, true⟩], fun k x => S161 k x.1⟩
theorem ok161 : FnOK Tryz.prog 161 F161 := okF [(58, F58)] [] (fun k => (.loop 2 c161_L2 (b161_2 k) (fun g => .nil) .nil)) ⟨ok58, trivial⟩ Tryz.func161 rfl
def S189 (k : Nat) (a : Int) : Option Y0_32 :=
 (bif decide (a < 0) then
  none
 else
  (bif decide ((IntKind.i64.wrap (a - 0)) > 0) then
   az ([] : List (Int × Int)) (IntKind.i64.wrap (a - 0)) 16 (0, 0) fun r0 =>
   sx r0 0 0 <|
   some ((r0.take 0, ()), ())
  else
   some (([], ()), ())))
def F189 : Fn := ⟨[.pv (.nil), .val ⟨false, (.int .i64), false⟩], [.val ⟨false, (.sl 267 Y0_16), true⟩], fun k x => S189 k x.2.1⟩
theorem ok189 : FnOK Tryz.prog 189 F189 := okF [] [(25, 1)] (fun k => .nil) trivial Tryz.func189 rfl
abbrev c164_L11 : Cut := ⟨[6, 25, 26, 27], [.own 267 Y0_16, .cell (.sl 203 (.sl 267 Y0_16)), cI, cI], [], 36, []⟩
def l164_11 (k : Nat) (g11 : Y0_14 → (List Y0_14) → Int → Int → Option Y0_32) (a : Y0_31) (b : List Y0_14) (c e : Int) : Option Y0_32 :=
 (bif decide (e < c) then
  ix b e <|
  ap a (rd b e []) 16 fun r1 =>
  g11 r1 b c (IntKind.i64.wrap (e + 1))
 else
  some ((a, ()), ()))
def b164_11 (k : Nat) (g : ((Unit) × Y0_14 × (List Y0_14) × Int × Int × Unit) → Option Y0_32) (d : (Unit) × Y0_14 × (List Y0_14) × Int × Int × Unit) : Option Y0_32 := l164_11 k (fun a b c e => g ((), a, b, c, e, ())) d.2.1 d.2.2.1 d.2.2.2.1 d.2.2.2.2.1
def L164_11 (k a : Nat) (b : Y0_31) (c : List Y0_14) (e f : Int) : Option Y0_32 := iter (R := (Y0_14 × Unit) × Unit) c164_L11 (b164_11 k) a ((), b, c, e, f, ())
theorem L164_11_s (k a b c e f) : L164_11 k (a + 1) b c e f = l164_11 k (L164_11 k a) b c e f := iter_succ _ _ _ _
abbrev c164_L3 : Cut := ⟨[0, 3, 9, 10, 11], [.cell (.sl 203 (.sl 267 Y0_16)), cI, .cell (.sl 203 (.sl 267 Y0_16)), cI, cI], [], 36, []⟩
def l164_3 (k : Nat) (g3 : (List Y0_14) → Int → (List Y0_14) → Int → Int → Option Y0_32) (a : List Y0_14) (b : Int) (c : List Y0_14) (e f : Int) : Option Y0_32 :=
 (bif decide (f < e) then
  ix c f <|
  (bif decide ((IntKind.i64.wrap (b + ((rd c f []).length : Int))) < 0) then
   none
  else
   g3 a (IntKind.i64.wrap (b + ((rd c f []).length : Int))) c e (IntKind.i64.wrap (f + 1)))
 else
  (S189 k b).bind fun q0 =>
  L164_11 k k q0.1.1 a (a.length : Int) 0)
def b164_3 (k : Nat) (g : ((Unit) × (List Y0_14) × Int × (List Y0_14) × Int × Int × Unit) → Option Y0_32) (d : (Unit) × (List Y0_14) × Int × (List Y0_14) × Int × Int × Unit) : Option Y0_32 := l164_3 k (fun a b c e f => g ((), a, b, c, e, f, ())) d.2.1 d.2.2.1 d.2.2.2.1 d.2.2.2.2.1 d.2.2.2.2.2.1
def L164_3 (k a : Nat) (b : List Y0_14) (c : Int) (e : List Y0_14) (f h : Int) : Option Y0_32 := iter (R := (Y0_14 × Unit) × Unit) c164_L3 (b164_3 k) a ((), b, c, e, f, h, ())
theorem L164_3_s (k a b c e f h) : L164_3 k (a + 1) b c e f h = l164_3 k (L164_3 k a) b c e f h := iter_succ _ _ _ _
def S164 (k : Nat) (a : List Y0_14) : Option Y0_32 :=
 L164_3 k k a 0 a (a.length : Int) 0
def F164 : Fn := ⟨[.val ⟨false, (.sl 203 (.sl 267 Y0_16)), false⟩], [.val ⟨false, (.sl 267 Y0_16), true⟩], fun k x => S164 k x.1⟩
theorem ok164 : FnOK Tryz.prog 164 F164 := okF [(189, F189)] [] (fun k => (.loop 11 c164_L11 (b164_11 k) (fun g => .nil) (.loop 3 c164_L3 (b164_3 k) (fun g => .nil) .nil))) ⟨ok189, trivial⟩ Tryz.func164 rfl
def S109 (k : Nat) (a : Y0_28) : Option ((Int × Int × Y0_14 × Unit) × Unit) :=
 (S58 k a).bind fun q0 =>
 (bif q0.1.1 != 0 then
  some ((0, 0, [], ()), ())
 else
  (S159 k a.2.2.2.1).bind fun q1 =>
  (S159 k a.2.2.2.2.1).bind fun q2 =>
  (bif q2.1.2.1 then
   (S164 k ([q1.1.1.2.2, q2.1.1.2.2] : List Y0_14)).bind fun q3 =>
   some ((q1.1.1.1, q2.1.1.1, q3.1.1, ()), ())
  else
   (S164 k ([q1.1.1.2.2, q2.1.1.2.2] : List Y0_14)).bind fun q4 =>
   some ((q1.1.1.1, q1.1.1.2.1, q4.1.1, ()), ())))
def F109 : Fn := ⟨[.val ⟨true, Y0_1, false⟩], [.val ⟨false, (.int .i64), true⟩, .val ⟨false, (.int .i64), true⟩, .val ⟨false, (.sl 267 Y0_16), true⟩], fun k x => S109 k x.1⟩
theorem ok109 : FnOK Tryz.prog 109 F109 := okF [(58, F58), (159, F159), (164, F164)] [] (fun k => .nil) ⟨ok58, ok159, ok164, trivial⟩ Tryz.func109 rfl
def S116 (k : Nat) (a : Int) : Option Y0_38 :=
 (bif decide (a < 0) then
  none
 else
  (bif decide ((IntKind.i64.wrap (a - 0)) > 0) then
   az ([] : List Y0_7) (IntKind.i64.wrap (a - 0)) 32 (0, 0, 0, 0) fun r0 =>
   sx r0 0 0 <|
   some ((r0.take 0, ()), ())
  else
   some (([], ()), ())))
def F116 : Fn := ⟨[.pv (.nil), .val ⟨false, (.int .i64), false⟩], [.val ⟨false, Y0_25, true⟩], fun k x => S116 k x.2.1⟩
theorem ok116 : FnOK Tryz.prog 116 F116 := okF [] [(25, 1)] (fun k => .nil) trivial Tryz.func116 rfl
abbrev c69_L11 : Cut := ⟨[6, 25, 26, 27], [.own 40 Y0_6, .cell (.sl 41 Y0_25), cI, cI], [], 36, []⟩
def l69_11 (k : Nat) (g11 : (List Y0_7) → Y0_72 → Int → Int → Option Y0_38) (a : List Y0_7) (b : List (List Y0_7)) (c e : Int) : Option Y0_38 :=
 (bif decide (e < c) then
  ix b e <|
  ap a (rd b e []) 32 fun r1 =>
  g11 r1 b c (IntKind.i64.wrap (e + 1))
 else
  some ((a, ()), ()))
def b69_11 (k : Nat) (g : ((Unit) × (List Y0_7) × Y0_72 × Int × Int × Unit) → Option Y0_38) (d : (Unit) × (List Y0_7) × Y0_72 × Int × Int × Unit) : Option Y0_38 := l69_11 k (fun a b c e => g ((), a, b, c, e, ())) d.2.1 d.2.2.1 d.2.2.2.1 d.2.2.2.2.1
def L69_11 (k a : Nat) (b : List Y0_7) (c : List (List Y0_7)) (e f : Int) : Option Y0_38 := iter (R := ((List Y0_7) × Unit) × Unit) c69_L11 (b69_11 k) a ((), b, c, e, f, ())
theorem L69_11_s (k a b c e f) : L69_11 k (a + 1) b c e f = l69_11 k (L69_11 k a) b c e f := iter_succ _ _ _ _
abbrev c69_L3 : Cut := ⟨[0, 3, 9, 10, 11], [.cell (.sl 41 Y0_25), cI, .cell (.sl 41 Y0_25), cI, cI], [], 36, []⟩
def l69_3 (k : Nat) (g3 : Y0_72 → Int → Y0_72 → Int → Int → Option Y0_38) (a : List (List Y0_7)) (b : Int) (c : List (List Y0_7)) (e f : Int) : Option Y0_38 :=
 (bif decide (f < e) then
  ix c f <|
  (bif decide ((IntKind.i64.wrap (b + ((rd c f []).length : Int))) < 0) then
   none
  else
   g3 a (IntKind.i64.wrap (b + ((rd c f []).length : Int))) c e (IntKind.i64.wrap (f + 1)))
 else
  (S116 k b).bind fun q0 =>
  L69_11 k k q0.1.1 a (a.length : Int) 0)
def b69_3 (k : Nat) (g : ((Unit) × Y0_72 × Int × Y0_72 × Int × Int × Unit) → Option Y0_38) (d : (Unit) × Y0_72 × Int × Y0_72 × Int × Int × Unit) : Option Y0_38 := l69_3 k (fun a b c e f => g ((), a, b, c, e, f, ())) d.2.1 d.2.2.1 d.2.2.2.1 d.2.2.2.2.1 d.2.2.2.2.2.1
def L69_3 (k a : Nat) (b : List (List Y0_7)) (c : Int) (e : List (List Y0_7)) (f h : Int) : Option Y0_38 := iter (R := ((List Y0_7) × Unit) × Unit) c69_L3 (b69_3 k) a ((), b, c, e, f, h, ())
theorem L69_3_s (k a b c e f h) : L69_3 k (a + 1) b c e f h = l69_3 k (L69_3 k a) b c e f h := iter_succ _ _ _ _
def S69 (k : Nat) (a : List (List Y0_7)) : Option Y0_38 :=
 L69_3 k k a 0 a (a.length : Int) 0
def F69 : Fn := ⟨[.val ⟨false, (.sl 41 Y0_25), false⟩], [.val ⟨false, Y0_25, true⟩], fun k x => S69 k x.1⟩
theorem ok69 : FnOK Tryz.prog 69 F69 := okF [(116, F116)] [] (fun k => (.loop 11 c69_L11 (b69_11 k) (fun g => .nil) (.loop 3 c69_L3 (b69_3 k) (fun g => .nil) .nil))) ⟨ok116, trivial⟩ Tryz.func69 rfl
def S118 (k : Nat) (a : Int × Int × Int × Int) (b : Int) : Option Y0_15 :=
 (bif a.1 == 9 then
  some ((a.2.1 == b, ()), ())
 else
  some ((false, ()), ()))
def F118 : Fn := ⟨[.val ⟨true, Y0_6, false⟩, .pv (.ref (.int .i64))], [.val ⟨false, .bool, true⟩], fun k x => S118 k x.1 x.2.1⟩
theorem ok118 : FnOK Tryz.prog 118 F118 := okF [] [] (fun k => .nil) trivial Tryz.func118 rfl
abbrev c115c_L2 : Cut := ⟨[0, 1, 7, 8], [.cell Y0_25, .clo 118 [.ref (.int .i64)], cI, cI], [], 19, []⟩
def l115c_2 (k : Nat) (g2 : (List Y0_7) → Int → Int → Int → Option Y0_12) (a : List Y0_7) (b c e : Int) : Option Y0_12 :=
 (bif decide (e < c) then
  ix a e <|
  (S118 k (rd a e (0, 0, 0, 0)) b).bind fun q0 =>
  (bif q0.1.1 then
   some ((e, ()), ())
  else
   g2 a b c (IntKind.i64.wrap (e + 1)))
 else
  some (((-1), ()), ()))
def b115c_2 (k : Nat) (g : ((Unit) × (List Y0_7) × Y0_53 × Int × Int × Unit) → Option Y0_12) (d : (Unit) × (List Y0_7) × Y0_53 × Int × Int × Unit) : Option Y0_12 := l115c_2 k (fun a b c e => g ((), a, (b, ()), c, e, ())) d.2.1 d.2.2.1.1 d.2.2.2.1 d.2.2.2.2.1
def L115c_2 (k a : Nat) (b : List Y0_7) (c e f : Int) : Option Y0_12 := iter (R := Y0_53 × Unit) c115c_L2 (b115c_2 k) a ((), b, (c, ()), e, f, ())
theorem L115c_2_s (k a b c e f) : L115c_2 k (a + 1) b c e f = l115c_2 k (L115c_2 k a) b c e f := iter_succ _ _ _ _
def S115c (k : Nat) (a : List Y0_7) (b : Int) : Option Y0_12 :=
 L115c_2 k k a b (a.length : Int) 0
def F115c : Fn := ⟨[.val ⟨false, Y0_25, false⟩, .pv (.clo 118 [.ref (.int .i64)])], [.val ⟨false, (.int .i64), true⟩], fun k x => S115c k x.1 x.2.1.1⟩
theorem ok115c : FnOK Tryz.prog 115 F115c := okF [(118, F118)] [] (fun k => (.loop 2 c115c_L2 (b115c_2 k) (fun g => .nil) .nil)) ⟨ok118, trivial⟩ Tryz.func115 rfl
def S68b (k : Nat) (a : List Y0_7) (b : Int) : Option Y0_15 :=
 (S115c k a b).bind fun q0 =>
 some ((decide (q0.1.1 ≥ 0), ()), ())
def F68b : Fn := ⟨[.val ⟨false, Y0_25, false⟩, .pv (.clo 118 [.ref (.int .i64)])], [.val ⟨false, .bool, true⟩], fun k x => S68b k x.1 x.2.1.1⟩
theorem ok68b : FnOK Tryz.prog 68 F68b := okF [(115, F115c)] [] (fun k => .nil) ⟨ok115c, trivial⟩ Tryz.func68 rfl
def S117 (k : Nat) (a : Y0_28) (b : Int) : Option Y0_15 :=
 (S69 k ([a.2.2.2.1, a.2.2.2.2.1] : List (List Y0_7))).bind fun q0 =>
 (S68b k q0.1.1 b).bind fun q1 =>
 some ((q1.1.1, ()), ())
def F117 : Fn := ⟨[.val ⟨true, Y0_1, false⟩, .pv (.ref (.int .i64))], [.val ⟨false, .bool, true⟩], fun k x => S117 k x.1 x.2.1⟩
theorem ok117 : FnOK Tryz.prog 117 F117 := okF [(68, F68b), (69, F69)] [] (fun k => .nil) ⟨ok68b, ok69, trivial⟩ Tryz.func117 rfl
abbrev c60a_L2 : Cut := ⟨[0, 1, 7, 8], [.cell Y0_39, .clo 117 [.ref (.int .i64)], cI, cI], [], 19, []⟩
def l60a_2 (k : Nat) (g2 : (List Y0_0) → Int → Int → Int → Option Y0_12) (a : List Y0_0) (b c e : Int) : Option Y0_12 :=
 (bif decide (e < c) then
  ix a e <|
  (S117 k (rd a e (0, 0, 0, [], [], [])) b).bind fun q0 =>
  (bif q0.1.1 then
   some ((e, ()), ())
  else
   g2 a b c (IntKind.i64.wrap (e + 1)))
 else
  some (((-1), ()), ()))
def b60a_2 (k : Nat) (g : ((Unit) × (List Y0_0) × Y0_53 × Int × Int × Unit) → Option Y0_12) (d : (Unit) × (List Y0_0) × Y0_53 × Int × Int × Unit) : Option Y0_12 := l60a_2 k (fun a b c e => g ((), a, (b, ()), c, e, ())) d.2.1 d.2.2.1.1 d.2.2.2.1 d.2.2.2.2.1
def L60a_2 (k a : Nat) (b : List Y0_0) (c e f : Int) : Option Y0_12 := iter (R := Y0_53 × Unit) c60a_L2 (b60a_2 k) a ((), b, (c, ()), e, f, ())
theorem L60a_2_s (k a b c e f) : L60a_2 k (a + 1) b c e f = l60a_2 k (L60a_2 k a) b c e f := iter_succ _ _ _ _
def S60a (k : Nat) (a : List Y0_0) (b : Int) : Option Y0_12 :=
 L60a_2 k k a b (a.length : Int) 0
def F60a : Fn := ⟨[.val ⟨false, Y0_39, false⟩, .pv (.clo 117 [.ref (.int .i64)])], [.val ⟨false, (.int .i64), true⟩], fun k x => S60a k x.1 x.2.1.1⟩
theorem ok60a : FnOK Tryz.prog 60 F60a := okF [(117, F117)] [] (fun k => (.loop 2 c60a_L2 (b60a_2 k) (fun g => .nil) .nil)) ⟨ok117, trivial⟩ Tryz.func60 rfl
def S71 (k : Nat) (a : List Y0_0) (b : Int) : Option Y0_12 :=
 (S60a k a b).bind fun q0 =>
 (bif decide (q0.1.1 < 0) then
  some ((8, ()), ())
 else
  some ((q0.1.1, ()), ()))
def F71 : Fn := ⟨[.val ⟨false, Y0_39, false⟩, .val ⟨false, (.int .i64), false⟩], [.val ⟨false, (.int .i64), true⟩], fun k x => S71 k x.1 x.2.1⟩
theorem ok71 : FnOK Tryz.prog 71 F71 := okF [(60, F60a)] [] (fun k => .nil) ⟨ok60a, trivial⟩ Tryz.func71 rfl
abbrev c110_J13 : Cut := ⟨[0, 1, 4, 5, 12, 16, 17, 18, 32, 33, 34], [.cell Y0_39, cI, cI, .mp 268 true (.int .i64) false (.int .i64), .box 267 [cI, cI], .cell Y0_39, cI, cI, .own 267 Y0_16, cI, cI], [], 70, []⟩
def j110_13 (k : Nat) (g3 : Y0_30) (g8 : Y0_49) (a : List Y0_0) (b c : Int) (e : Y0_31) (x f : Int) (h : List Y0_0) (i l : Int) (m : Y0_31) (n o : Int) : Option Y0_12 :=
 (bif decide ((mget (.int .i64) (.int .i64) x e 0) ≤ b) then
  g8 a b (mx c f) e h i l m n (IntKind.i64.wrap (o + 1))
 else
  g8 a b c e h i l m n (IntKind.i64.wrap (o + 1)))
abbrev c110_L8 : Cut := ⟨[0, 1, 4, 5, 16, 17, 18, 32, 33, 34], [.cell Y0_39, cI, cI, .mp 268 true (.int .i64) false (.int .i64), .cell Y0_39, cI, cI, .own 267 Y0_16, cI, cI], [], 70, []⟩
def l110_8 (k : Nat) (g3 : Y0_30) (g8 : Y0_49) (a : List Y0_0) (b c : Int) (e : Y0_31) (f : List Y0_0) (h i : Int) (l : Y0_31) (m n : Int) : Option Y0_12 :=
 (bif decide (n < m) then
  ix l n <|
  (bif !(mhas (.int .i64) (.int .i64) (rd l n (0, 0)).1 e) then
   (S71 k a (rd l n (0, 0)).1).bind fun q1 =>
   j110_13 k g3 g8 a b c (updD (.int .i64) (.int .i64) (rd l n (0, 0)).1 q1.1.1 e) (rd l n (0, 0)).1 (rd l n (0, 0)).2 f h i l m n
  else
   j110_13 k g3 g8 a b c e (rd l n (0, 0)).1 (rd l n (0, 0)).2 f h i l m n)
 else
  g3 a b c e f h (IntKind.i64.wrap (i + 1)))
def b110_8 (k : Nat) (g3 : Y0_30) (g : ((Unit) × (List Y0_0) × Int × Int × Y0_14 × (List Y0_0) × Int × Int × Y0_14 × Int × Int × Unit) → Option Y0_12) (d : (Unit) × (List Y0_0) × Int × Int × Y0_14 × (List Y0_0) × Int × Int × Y0_14 × Int × Int × Unit) : Option Y0_12 := l110_8 k g3 (fun a b c e f h i l m n => g ((), a, b, c, e, f, h, i, l, m, n, ())) d.2.1 d.2.2.1 d.2.2.2.1 d.2.2.2.2.1 d.2.2.2.2.2.1 d.2.2.2.2.2.2.1 d.2.2.2.2.2.2.2.1 d.2.2.2.2.2.2.2.2.1 d.2.2.2.2.2.2.2.2.2.1 d.2.2.2.2.2.2.2.2.2.2.1
def L110_8 (k : Nat) (g3 : Y0_30) (a : Nat) (b : List Y0_0) (c e : Int) (f : Y0_31) (h : List Y0_0) (i l : Int) (m : Y0_31) (n o : Int) : Option Y0_12 := iter (R := Y0_53 × Unit) c110_L8 (b110_8 k g3) a ((), b, c, e, f, h, i, l, m, n, o, ())
theorem L110_8_s (k g3 a b c e f h i l m n o) : L110_8 k g3 (a + 1) b c e f h i l m n o = l110_8 k g3 (L110_8 k g3 a) b c e f h i l m n o := iter_succ _ _ _ _
abbrev c110_L3 : Cut := ⟨[0, 1, 4, 5, 16, 17, 18], [.cell Y0_39, cI, cI, .mp 268 true (.int .i64) false (.int .i64), .cell Y0_39, cI, cI], [], 70, []⟩
def l110_3 (k : Nat) (g3 : Y0_30) (a : List Y0_0) (b c : Int) (e : Y0_31) (f : List Y0_0) (h i : Int) : Option Y0_12 :=
 (bif decide (i < h) then
  ix f i <|
  (bif i == b then
   g3 a b c e f h (IntKind.i64.wrap (i + 1))
  else
   (S109 k (rd f i (0, 0, 0, [], [], []))).bind fun q0 =>
   L110_8 k g3 k a b c e f h i q0.1.2.2.1 (q0.1.2.2.1.length : Int) 0)
 else
  some ((c, ()), ()))
def b110_3 (k : Nat) (g : ((Unit) × (List Y0_0) × Int × Int × Y0_14 × (List Y0_0) × Int × Int × Unit) → Option Y0_12) (d : (Unit) × (List Y0_0) × Int × Int × Y0_14 × (List Y0_0) × Int × Int × Unit) : Option Y0_12 := l110_3 k (fun a b c e f h i => g ((), a, b, c, e, f, h, i, ())) d.2.1 d.2.2.1 d.2.2.2.1 d.2.2.2.2.1 d.2.2.2.2.2.1 d.2.2.2.2.2.2.1 d.2.2.2.2.2.2.2.1
def L110_3 (k a : Nat) (b : List Y0_0) (c e : Int) (f : Y0_31) (h : List Y0_0) (i l : Int) : Option Y0_12 := iter (R := Y0_53 × Unit) c110_L3 (b110_3 k) a ((), b, c, e, f, h, i, l, ())
theorem L110_3_s (k a b c e f h i l) : L110_3 k (a + 1) b c e f h i l = l110_3 k (L110_3 k a) b c e f h i l := iter_succ _ _ _ _
def S110 (k : Nat) (a : List Y0_0) (b : Int) : Option Y0_12 :=
 L110_3 k k a b 0 ([] : List (Int × Int)) a (a.length : Int) 0
def F110 : Fn := ⟨[.val ⟨false, Y0_39, false⟩, .val ⟨false, (.int .i64), false⟩], [.val ⟨false, (.int .i64), true⟩], fun k x => S110 k x.1 x.2.1⟩
theorem ok110 : FnOK Tryz.prog 110 F110 := okF [(71, F71), (109, F109)] [] (fun k => (.loop 3 c110_L3 (b110_3 k) (fun g => (fun (g3 : Y0_30) => (.loop 8 c110_L8 (b110_8 k g3) (fun g => (fun (g8 : Y0_49) => (.join 13 c110_J13 (fun d => j110_13 k g3 g8 d.2.1 d.2.2.1 d.2.2.2.1 d.2.2.2.2.1 d.2.2.2.2.2.1.1 d.2.2.2.2.2.1.2.1 d.2.2.2.2.2.2.1 d.2.2.2.2.2.2.2.1 d.2.2.2.2.2.2.2.2.1 d.2.2.2.2.2.2.2.2.2.1 d.2.2.2.2.2.2.2.2.2.2.1 d.2.2.2.2.2.2.2.2.2.2.2.1) .nil)) (fun l_2 i2 most1 ceils1 t16_1 t17_1 t18_1 t32 t33 t34 => g ((), l_2, i2, most1, ceils1, t16_1, t17_1, t18_1, t32, t33, t34, ()))) .nil)) (fun l_1 i1 most ceils t16 t17 t18 => g ((), l_1, i1, most, ceils, t16, t17, t18, ()))) .nil)) ⟨ok71, ok109, trivial⟩ Tryz.func110 rfl
def S162 (k : Nat) (a : Int) (b : Bool) (c e : Int) : Option ((Unit) × Y0_69 × Unit) :=
 (S186 k c e).bind fun q0 =>
 (S187 k a q0.1.1).bind fun q1 =>
 (bif b then
  some ((), (q1.1.1, true, ()), ())
 else
  (bif !q0.1.2.1 then
   some ((), (q1.1.1, true, ()), ())
  else
   some ((), (q1.1.1, !q1.1.2.1, ()), ())))
def F162 : Fn := ⟨[.mbox 262 [cI, .cell .bool], .val ⟨false, (.int .i64), false⟩, .val ⟨false, (.int .i64), false⟩], [], fun k x => S162 k x.1.1 x.1.2.1 x.2.1 x.2.2.1⟩
theorem ok162 : FnOK Tryz.prog 162 F162 := okF [(186, F186), (187, F187)] [] (fun k => .nil) ⟨ok186, ok187, trivial⟩ Tryz.func162 rfl
def S188 (k : Nat) (a b : Int) : Option Y0_34 :=
 (bif decide (b < 1) then
  some ((0, false, ()), ())
 else
  (bif decide (a < 0) then
   some ((0, false, ()), ())
  else
   nz b <|
   nz b <|
   (bif decide ((Int.tmod a b) > 0) then
    some ((IntKind.i64.wrap ((IntKind.i64.wrap (Int.tdiv a b)) + 1), true, ()), ())
   else
    some ((IntKind.i64.wrap (Int.tdiv a b), true, ()), ()))))
def F188 : Fn := ⟨[.val ⟨false, (.int .i64), false⟩, .val ⟨false, (.int .i64), false⟩], [.val ⟨false, (.int .i64), true⟩, .val ⟨false, .bool, true⟩], fun k x => S188 k x.1 x.2.1⟩
theorem ok188 : FnOK Tryz.prog 188 F188 := okF [] [] (fun k => .nil) trivial Tryz.func188 rfl
def S163 (k : Nat) (a b : Int) : Option Y0_12 :=
 (S188 k a b).bind fun q0 =>
 some ((q0.1.1, ()), ())
def F163 : Fn := ⟨[.val ⟨false, (.int .i64), false⟩, .val ⟨false, (.int .i64), false⟩], [.val ⟨false, (.int .i64), true⟩], fun k x => S163 k x.1 x.2.1⟩
theorem ok163 : FnOK Tryz.prog 163 F163 := okF [(188, F188)] [] (fun k => .nil) ⟨ok188, trivial⟩ Tryz.func163 rfl
abbrev c108_L18 : Cut := ⟨[0, 1, 2, 6, 7, 12, 18, 19, 88, 89, 90], [.cell Y0_39, cI, cI, cI, cI, cI, .box 262 [cI, .cell .bool], .box 262 [cI, .cell .bool], .cell Y0_39, cI, cI], [], 128, []⟩
def l108_18 (k : Nat) (g14 : Y0_36) (g18 : (List Y0_0) → Int → Int → Int → Int → Int → Int → Bool → Int → Bool → (List Y0_0) → Int → Int → Option Y0_23) (a : List Y0_0) (b c e f h i : Int) (l : Bool) (m : Int) (n : Bool) (o : List Y0_0) (p s : Int) : Option Y0_23 :=
 (bif decide (s < p) then
  ix o s <|
  (S109 k (rd o s (0, 0, 0, [], [], []))).bind fun q7 =>
  (S163 k e (rd o s (0, 0, 0, [], [], [])).2.1).bind fun q8 =>
  (S162 k m n q8.1.1 q7.1.1).bind fun q9 =>
  g18 a b c e f h i l q9.2.1.1 q9.2.1.2.1 o p (IntKind.i64.wrap (s + 1))
 else
  (bif n then
   some ((0, 0, 13, ()), ())
  else
   ix a b <|
   (bif decide (m > (rd a b (0, 0, 0, [], [], [])).2.2.1) then
    some ((0, 0, 14, ()), ())
   else
    (bif m == e then
     some ((e, f, 0, ()), ())
    else
     g14 a b c m f h i l))))
def b108_18 (k : Nat) (g14 : Y0_36) (g : ((Unit) × (List Y0_0) × Int × Int × Int × Int × Int × Y0_69 × Y0_69 × (List Y0_0) × Int × Int × Unit) → Option Y0_23) (d : (Unit) × (List Y0_0) × Int × Int × Int × Int × Int × Y0_69 × Y0_69 × (List Y0_0) × Int × Int × Unit) : Option Y0_23 := l108_18 k g14 (fun a b c e f h i l m n o p s => g ((), a, b, c, e, f, h, (i, l, ()), (m, n, ()), o, p, s, ())) d.2.1 d.2.2.1 d.2.2.2.1 d.2.2.2.2.1 d.2.2.2.2.2.1 d.2.2.2.2.2.2.1 d.2.2.2.2.2.2.2.1.1 d.2.2.2.2.2.2.2.1.2.1 d.2.2.2.2.2.2.2.2.1.1 d.2.2.2.2.2.2.2.2.1.2.1 d.2.2.2.2.2.2.2.2.2.1 d.2.2.2.2.2.2.2.2.2.2.1 d.2.2.2.2.2.2.2.2.2.2.2.1
def L108_18 (k : Nat) (g14 : Y0_36) (a : Nat) (b : List Y0_0) (c e f h i l : Int) (m : Bool) (n : Int) (o : Bool) (p : List Y0_0) (s t : Int) : Option Y0_23 := iter (R := (Int × Int × Int × Unit) × Unit) c108_L18 (b108_18 k g14) a ((), b, c, e, f, h, i, (l, m, ()), (n, o, ()), p, s, t, ())
theorem L108_18_s (k g14 a b c e f h i l m n o p s t) : L108_18 k g14 (a + 1) b c e f h i l m n o p s t = l108_18 k g14 (L108_18 k g14 a) b c e f h i l m n o p s t := iter_succ _ _ _ _
abbrev c108_L14 : Cut := ⟨[0, 1, 2, 6, 7, 12, 18], [.cell Y0_39, cI, cI, cI, cI, cI, .box 262 [cI, .cell .bool]], [], 128, []⟩
def l108_14 (k : Nat) (g14 : Y0_36) (a : List Y0_0) (b c e f h i : Int) (l : Bool) : Option Y0_23 :=
 (S163 k e c).bind fun q5 =>
 (S162 k i l q5.1.1 h).bind fun q6 =>
 sx a 0 b <|
 L108_18 k g14 k a b c e (IntKind.i64.wrap (f + 1)) h i l q6.2.1.1 q6.2.1.2.1 (sub a 0 b) ((sub a 0 b).length : Int) 0
def b108_14 (k : Nat) (g : ((Unit) × (List Y0_0) × Int × Int × Int × Int × Int × Y0_69 × Unit) → Option Y0_23) (d : (Unit) × (List Y0_0) × Int × Int × Int × Int × Int × Y0_69 × Unit) : Option Y0_23 := l108_14 k (fun a b c e f h i l => g ((), a, b, c, e, f, h, (i, l, ()), ())) d.2.1 d.2.2.1 d.2.2.2.1 d.2.2.2.2.1 d.2.2.2.2.2.1 d.2.2.2.2.2.2.1 d.2.2.2.2.2.2.2.1.1 d.2.2.2.2.2.2.2.1.2.1
def L108_14 (k a : Nat) (b : List Y0_0) (c e f h i l : Int) (m : Bool) : Option Y0_23 := iter (R := (Int × Int × Int × Unit) × Unit) c108_L14 (b108_14 k) a ((), b, c, e, f, h, i, (l, m, ()), ())
theorem L108_14_s (k a b c e f h i l m) : L108_14 k (a + 1) b c e f h i l m = l108_14 k (L108_14 k a) b c e f h i l m := iter_succ _ _ _ _
abbrev c108_L6 : Cut := ⟨[0, 1, 2, 7, 9, 12, 54, 55, 56], [.cell Y0_39, cI, cI, cI, cI, cI, .cell Y0_39, cI, cI], [], 128, []⟩
def l108_6 (k : Nat) (g6 : (List Y0_0) → Int → Int → Int → Int → Int → (List Y0_0) → Int → Int → Option Y0_23) (a : List Y0_0) (b c e f h : Int) (i : List Y0_0) (l m : Int) : Option Y0_23 :=
 (bif decide (m < l) then
  ix i m <|
  (S109 k (rd i m (0, 0, 0, [], [], []))).bind fun q2 =>
  g6 a b c e f (mx h q2.1.2.1) i l (IntKind.i64.wrap (m + 1))
 else
  (S110 k a b).bind fun q3 =>
  (S162 k f false 1 q3.1.1).bind fun q4 =>
  L108_14 k k a b c q4.2.1.1 e h q4.2.1.1 q4.2.1.2.1)
def b108_6 (k : Nat) (g : ((Unit) × (List Y0_0) × Int × Int × Int × Int × Int × (List Y0_0) × Int × Int × Unit) → Option Y0_23) (d : (Unit) × (List Y0_0) × Int × Int × Int × Int × Int × (List Y0_0) × Int × Int × Unit) : Option Y0_23 := l108_6 k (fun a b c e f h i l m => g ((), a, b, c, e, f, h, i, l, m, ())) d.2.1 d.2.2.1 d.2.2.2.1 d.2.2.2.2.1 d.2.2.2.2.2.1 d.2.2.2.2.2.2.1 d.2.2.2.2.2.2.2.1 d.2.2.2.2.2.2.2.2.1 d.2.2.2.2.2.2.2.2.2.1
def L108_6 (k a : Nat) (b : List Y0_0) (c e f h i : Int) (l : List Y0_0) (m n : Int) : Option Y0_23 := iter (R := (Int × Int × Int × Unit) × Unit) c108_L6 (b108_6 k) a ((), b, c, e, f, h, i, l, m, n, ())
theorem L108_6_s (k a b c e f h i l m n) : L108_6 k (a + 1) b c e f h i l m n = l108_6 k (L108_6 k a) b c e f h i l m n := iter_succ _ _ _ _
def S108 (k : Nat) (a : List Y0_0) (b c : Int) : Option Y0_23 :=
 (S161 k a).bind fun q0 =>
 (bif !q0.1.1 then
  some ((0, 0, 1, ()), ())
 else
  (bif decide (b < 0) then
   some ((0, 0, 1, ()), ())
  else
   (bif decide (b ≥ (a.length : Int)) then
    some ((0, 0, 1, ()), ())
   else
    (bif decide (c < 1) then
     some ((0, 0, 1, ()), ())
    else
     ix a b <|
     (S109 k (rd a b (0, 0, 0, [], [], []))).bind fun q1 =>
     sx a 0 (IntKind.i64.wrap (b + 1)) <|
     L108_6 k k a b c 0 q1.1.1 0 (sub a 0 (IntKind.i64.wrap (b + 1))) ((sub a 0 (IntKind.i64.wrap (b + 1))).length : Int) 0))))
def F108 : Fn := ⟨[.val ⟨false, Y0_39, false⟩, .val ⟨false, (.int .i64), false⟩, .val ⟨false, (.int .i64), false⟩], [.val ⟨false, (.int .i64), true⟩, .val ⟨false, (.int .i64), true⟩, .val ⟨false, (.int .i64), true⟩], fun k x => S108 k x.1 x.2.1 x.2.2.1⟩
theorem ok108 : FnOK Tryz.prog 108 F108 := okF [(109, F109), (110, F110), (161, F161), (162, F162), (163, F163)] [] (fun k => (.loop 14 c108_L14 (b108_14 k) (fun g => (fun (g14 : Y0_36) => (.loop 18 c108_L18 (b108_18 k g14) (fun g => .nil) .nil)) (fun l_2 i2 apart2 r_ rounds1 lost1 first first1 => g ((), l_2, i2, apart2, r_, rounds1, lost1, (first, first1, ()), ()))) (.loop 6 c108_L6 (b108_6 k) (fun g => .nil) .nil))) ⟨ok109, ok110, ok161, ok162, ok163, trivial⟩ Tryz.func108 rfl
abbrev c63_L4 : Cut := ⟨[0, 1, 4, 16, 17, 18], [.cell Y0_39, cI, .own 117 Y0_35, .cell Y0_39, cI, cI], [], 56, []⟩
def l63_4 (k : Nat) (g4 : (List Y0_0) → Int → Y0_68 → (List Y0_0) → Int → Int → Option Y0_54) (a : List Y0_0) (b : Int) (c : List (PN Int 5)) (e : List Y0_0) (f h : Int) : Option Y0_54 :=
 (bif decide (h < f) then
  ix e h <|
  (S108 k a h b).bind fun q0 =>
  (bif q0.1.2.2.1 != 0 then
   some ((([] : List (PN Int 5)), q0.1.2.2.1, ()), ())
  else
   (S109 k (rd e h (0, 0, 0, [], [], []))).bind fun q1 =>
   (S110 k a h).bind fun q2 =>
   ap c ([(q1.1.1, q1.1.2.1, q2.1.1, q0.1.1, IntKind.i64.wrap ((rd e h (0, 0, 0, [], [], [])).2.2.1 - q0.1.1))] : List (PN Int 5)) 40 fun r3 =>
   g4 a b r3 e f (IntKind.i64.wrap (h + 1)))
 else
  some ((c, 0, ()), ()))
def b63_4 (k : Nat) (g : ((Unit) × (List Y0_0) × Int × Y0_68 × (List Y0_0) × Int × Int × Unit) → Option Y0_54) (d : (Unit) × (List Y0_0) × Int × Y0_68 × (List Y0_0) × Int × Int × Unit) : Option Y0_54 := l63_4 k (fun a b c e f h => g ((), a, b, c, e, f, h, ())) d.2.1 d.2.2.1 d.2.2.2.1 d.2.2.2.2.1 d.2.2.2.2.2.1 d.2.2.2.2.2.2.1
def L63_4 (k a : Nat) (b : List Y0_0) (c : Int) (e : List (PN Int 5)) (f : List Y0_0) (h i : Int) : Option Y0_54 := iter (R := (Y0_68 × Int × Unit) × Unit) c63_L4 (b63_4 k) a ((), b, c, e, f, h, i, ())
theorem L63_4_s (k a b c e f h i) : L63_4 k (a + 1) b c e f h i = l63_4 k (L63_4 k a) b c e f h i := iter_succ _ _ _ _
def S63 (k : Nat) (a : List Y0_0) (b : Int) : Option Y0_54 :=
 (bif decide (b < 1) then
  some ((([] : List (PN Int 5)), 1, ()), ())
 else
  L63_4 k k a b ([] : List (PN Int 5)) a (a.length : Int) 0)
def F63 : Fn := ⟨[.val ⟨false, Y0_39, false⟩, .val ⟨false, (.int .i64), false⟩], [.val ⟨false, (.sl 117 Y0_35), true⟩, .val ⟨false, (.int .i64), true⟩], fun k x => S63 k x.1 x.2.1⟩
theorem ok63 : FnOK Tryz.prog 63 F63 := okF [(108, F108), (109, F109), (110, F110)] [(4, 2)] (fun k => (.loop 4 c63_L4 (b63_4 k) (fun g => .nil) .nil)) ⟨ok108, ok109, ok110, trivial⟩ Tryz.func63 rfl
abbrev c30_J23 : Cut := ⟨[2, 4, 13, 16], [cI, .box 43 [cI, cI, cI, .cell Y0_25, .cell Y0_25, .cell Y0_25], .own 43 Y0_1, cI], [], 82, []⟩
def j30_23 (k : Nat) (a b c e : Int) (f h i : List Y0_7) (l : List Y0_0) (m : Int) : Option Y0_24 :=
 (S59 k (b, c, e, f, h, i)).bind fun q4 =>
 (S62 k l m ([q4.1.1] : List Y0_0)).bind fun q5 =>
 (S63 k q5.1.1 a).bind fun q6 =>
 (bif q6.1.2.1 != 0 then
  some (([], [], q6.1.2.1, ()), ())
 else
  some ((q5.1.1, q6.1.1, 0, ()), ()))
abbrev c30_L16 : Cut := ⟨[2, 4, 13, 46, 47, 48], [cI, .box 43 [cI, cI, cI, .cell Y0_25, .cell Y0_25, .cell Y0_25], .own 43 Y0_1, .cell Y0_39, cI, cI], [], 82, []⟩
def l30_16 (k : Nat) (g16 : Int → Int → Int → Int → (List Y0_7) → (List Y0_7) → (List Y0_7) → (List Y0_0) → (List Y0_0) → Int → Int → Option Y0_24) (a b c e : Int) (f h i : List Y0_7) (l m : List Y0_0) (n o : Int) : Option Y0_24 :=
 (bif decide (o < n) then
  ix m o <|
  (S59 k (rd m o (0, 0, 0, [], [], []))).bind fun q1 =>
  ap l ([q1.1.1] : List Y0_0) 96 fun r2 =>
  g16 a b c e f h i r2 m n (IntKind.i64.wrap (o + 1))
 else
  (S60 k l (b, c, e, f, h, i)).bind fun q3 =>
  (bif decide (q3.1.1 < 0) then
   j30_23 k a b c e f h i l (l.length : Int)
  else
   j30_23 k a b c e f h i l q3.1.1))
def b30_16 (k : Nat) (g : ((Unit) × Int × Y0_52 × (List Y0_0) × (List Y0_0) × Int × Int × Unit) → Option Y0_24) (d : (Unit) × Int × Y0_52 × (List Y0_0) × (List Y0_0) × Int × Int × Unit) : Option Y0_24 := l30_16 k (fun a b c e f h i l m n o => g ((), a, (b, c, e, f, h, i, ()), l, m, n, o, ())) d.2.1 d.2.2.1.1 d.2.2.1.2.1 d.2.2.1.2.2.1 d.2.2.1.2.2.2.1 d.2.2.1.2.2.2.2.1 d.2.2.1.2.2.2.2.2.1 d.2.2.2.1 d.2.2.2.2.1 d.2.2.2.2.2.1 d.2.2.2.2.2.2.1
def L30_16 (k a : Nat) (b c e f : Int) (h i l : List Y0_7) (m n : List Y0_0) (o p : Int) : Option Y0_24 := iter (R := ((List Y0_0) × Y0_68 × Int × Unit) × Unit) c30_L16 (b30_16 k) a ((), b, (c, e, f, h, i, l, ()), m, n, o, p, ())
theorem L30_16_s (k a b c e f h i l m n o p) : L30_16 k (a + 1) b c e f h i l m n o p = l30_16 k (L30_16 k a) b c e f h i l m n o p := iter_succ _ _ _ _
abbrev c30_L3 : Cut := ⟨[0, 2, 4, 9, 20, 21, 22], [.cell Y0_39, cI, .box 43 [cI, cI, cI, .cell Y0_25, .cell Y0_25, .cell Y0_25], .mp 142 true (.int .i64) false .bool, .cell Y0_39, cI, cI], [], 82, []⟩
def l30_3 (k : Nat) (g3 : (List Y0_0) → Int → Int → Int → Int → (List Y0_7) → (List Y0_7) → (List Y0_7) → (List (Int × Bool)) → (List Y0_0) → Int → Int → Option Y0_24) (a : List Y0_0) (b c e f : Int) (h i l : List Y0_7) (m : List (Int × Bool)) (n : List Y0_0) (o p : Int) : Option Y0_24 :=
 (bif decide (p < o) then
  ix n p <|
  g3 a b c e f h i l (updD (.int .i64) .bool (rd n p (0, 0, 0, [], [], [])).1 true m) n o (IntKind.i64.wrap (p + 1))
 else
  (S58 k (c, e, f, h, i, l)).bind fun q0 =>
  (bif q0.1.1 != 0 then
   some (([], [], q0.1.1, ()), ())
  else
   (bif mget (.int .i64) .bool c m false then
    some (([], [], 11, ()), ())
   else
    (bif decide ((a.length : Int) ≥ 8) then
     some (([], [], 4, ()), ())
    else
     L30_16 k k b c e f h i l ([] : List Y0_0) a (a.length : Int) 0))))
def b30_3 (k : Nat) (g : ((Unit) × (List Y0_0) × Int × Y0_52 × (List (Int × Bool)) × (List Y0_0) × Int × Int × Unit) → Option Y0_24) (d : (Unit) × (List Y0_0) × Int × Y0_52 × (List (Int × Bool)) × (List Y0_0) × Int × Int × Unit) : Option Y0_24 := l30_3 k (fun a b c e f h i l m n o p => g ((), a, b, (c, e, f, h, i, l, ()), m, n, o, p, ())) d.2.1 d.2.2.1 d.2.2.2.1.1 d.2.2.2.1.2.1 d.2.2.2.1.2.2.1 d.2.2.2.1.2.2.2.1 d.2.2.2.1.2.2.2.2.1 d.2.2.2.1.2.2.2.2.2.1 d.2.2.2.2.1 d.2.2.2.2.2.1 d.2.2.2.2.2.2.1 d.2.2.2.2.2.2.2.1
def L30_3 (k a : Nat) (b : List Y0_0) (c e f h : Int) (i l m : List Y0_7) (n : List (Int × Bool)) (o : List Y0_0) (p s : Int) : Option Y0_24 := iter (R := ((List Y0_0) × Y0_68 × Int × Unit) × Unit) c30_L3 (b30_3 k) a ((), b, c, (e, f, h, i, l, m, ()), n, o, p, s, ())
theorem L30_3_s (k a b c e f h i l m n o p s) : L30_3 k (a + 1) b c e f h i l m n o p s = l30_3 k (L30_3 k a) b c e f h i l m n o p s := iter_succ _ _ _ _
def S30 (k : Nat) (a : List Y0_0) (b : Y0_28) (c : Int) : Option Y0_24 :=
 L30_3 k k a c b.1 b.2.1 b.2.2.1 b.2.2.2.1 b.2.2.2.2.1 b.2.2.2.2.2 ([] : List (Int × Bool)) a (a.length : Int) 0
def F30 : Fn := ⟨[.val ⟨false, Y0_39, false⟩, .val ⟨true, Y0_1, false⟩, .val ⟨false, (.int .i64), false⟩], [.val ⟨false, Y0_39, true⟩, .val ⟨false, (.sl 117 Y0_35), true⟩, .val ⟨false, (.int .i64), true⟩], fun k x => S30 k x.1 x.2.1 x.2.2.1⟩
theorem ok30 : FnOK Tryz.prog 30 F30 := okF [(58, F58), (59, F59), (60, F60), (62, F62), (63, F63)] [(13, 2)] (fun k => (.join 23 c30_J23 (fun d => j30_23 k d.2.1 d.2.2.1.1 d.2.2.1.2.1 d.2.2.1.2.2.1 d.2.2.1.2.2.2.1 d.2.2.1.2.2.2.2.1 d.2.2.1.2.2.2.2.2.1 d.2.2.2.1 d.2.2.2.2.1) (.loop 16 c30_L16 (b30_16 k) (fun g => .nil) (.loop 3 c30_L3 (b30_3 k) (fun g => .nil) .nil)))) ⟨ok58, ok59, ok60, ok62, ok63, trivial⟩ Tryz.func30 rfl
def S13 (k : Nat) (a b : Int) (c : List Y0_0) (e : List (PN Int 5)) (f h i : Bool) (l : List Y0_3) (m : List Int) (n : List Bool) (o : List Y0_4) (p : List Int) (s : List Bool) (t u v w : Int) (y z A : List Y0_7) (B C D G H : Int) (I : List (PN Int 6)) (J K M N : Int) : Option Y0_67 :=
 (bif f then
  some ((), (a, b, c, e, f, h, i, l, m, n, o, p, s, t, u, v, w, y, z, A, B, C, D, G, H, I, 7, K, M, N, ()), ())
 else
  (S30 k c (u, v, w, y, z, A) b).bind fun q0 =>
  (bif q0.1.2.2.1 == 0 then
   some ((), (a, b, q0.1.1, q0.1.2.1, f, h, i, l, m, n, o, p, s, t, u, v, w, y, z, A, B, C, D, G, H, I, q0.1.2.2.1, K, M, N, ()), ())
  else
   some ((), (a, b, c, e, f, h, i, l, m, n, o, p, s, t, u, v, w, y, z, A, B, C, D, G, H, I, q0.1.2.2.1, K, M, N, ()), ())))
def F13 : Fn := ⟨[.mbox 71 [cI, cI, .cell Y0_39, .cell (.sl 117 Y0_35), .cell .bool, .cell .bool, .cell .bool, .cell (.sl 124 Y0_2), .cell Y0_18, .cell Y0_57, .cell (.sl 97 Y0_5), .cell Y0_18, .cell Y0_57, cI, cI, cI, cI, .cell Y0_25, .cell Y0_25, .cell Y0_25, cI, cI, cI, cI, .cell (.int .u32), .own 58 Y0_65, cI, cI, cI, cI]], [], fun k x => S13 k x.1.1 x.1.2.1 x.1.2.2.1 x.1.2.2.2.1 x.1.2.2.2.2.1 x.1.2.2.2.2.2.1 x.1.2.2.2.2.2.2.1 x.1.2.2.2.2.2.2.2.1 x.1.2.2.2.2.2.2.2.2.1 x.1.2.2.2.2.2.2.2.2.2.1 x.1.2.2.2.2.2.2.2.2.2.2.1 x.1.2.2.2.2.2.2.2.2.2.2.2.1 x.1.2.2.2.2.2.2.2.2.2.2.2.2.1 x.1.2.2.2.2.2.2.2.2.2.2.2.2.2.1 x.1.2.2.2.2.2.2.2.2.2.2.2.2.2.2.1 x.1.2.2.2.2.2.2.2.2.2.2.2.2.2.2.2.1 x.1.2.2.2.2.2.2.2.2.2.2.2.2.2.2.2.2.1 x.1.2.2.2.2.2.2.2.2.2.2.2.2.2.2.2.2.2.1 x.1.2.2.2.2.2.2.2.2.2.2.2.2.2.2.2.2.2.2.1 x.1.2.2.2.2.2.2.2.2.2.2.2.2.2.2.2.2.2.2.2.1 x.1.2.2.2.2.2.2.2.2.2.2.2.2.2.2.2.2.2.2.2.2.1 x.1.2.2.2.2.2.2.2.2.2.2.2.2.2.2.2.2.2.2.2.2.2.1 x.1.2.2.2.2.2.2.2.2.2.2.2.2.2.2.2.2.2.2.2.2.2.2.1 x.1.2.2.2.2.2.2.2.2.2.2.2.2.2.2.2.2.2.2.2.2.2.2.2.1 x.1.2.2.2.2.2.2.2.2.2.2.2.2.2.2.2.2.2.2.2.2.2.2.2.2.1 x.1.2.2.2.2.2.2.2.2.2.2.2.2.2.2.2.2.2.2.2.2.2.2.2.2.2.1 x.1.2.2.2.2.2.2.2.2.2.2.2.2.2.2.2.2.2.2.2.2.2.2.2.2.2.2.1 x.1.2.2.2.2.2.2.2.2.2.2.2.2.2.2.2.2.2.2.2.2.2.2.2.2.2.2.2.1 x.1.2.2.2.2.2.2.2.2.2.2.2.2.2.2.2.2.2.2.2.2.2.2.2.2.2.2.2.2.1 x.1.2.2.2.2.2.2.2.2.2.2.2.2.2.2.2.2.2.2.2.2.2.2.2.2.2.2.2.2.2.1⟩
theorem ok13 : FnOK Tryz.prog 13 F13 := okF [(30, F30)] [] (fun k => .nil) ⟨ok30, trivial⟩ Tryz.func13 rfl
def S42 (k : Nat) (a : List Y0_0) : Option (((List Y0_0) × Unit) × Unit) := cloneSem 96 43 Y0_1 k (a, ())
def F42 : Fn := ⟨clonePs 43 Y0_1, cloneRs 43 Y0_1, cloneSem 96 43 Y0_1⟩
theorem ok42 : FnOK Tryz.prog 42 F42 := clone_ok E0_ok mix Tryz.func42 rfl (by kernel_rfl) (by kernel_rfl) (fun k => by kernel_rfl) (fun k xs => by kernel_rfl) (fun k xs => by kernel_rfl)
def S43 (k : Nat) (a : List (PN Int 5)) : Option ((Y0_68 × Unit) × Unit) := cloneSem 40 117 Y0_35 k (a, ())
def F43 : Fn := ⟨clonePs 117 Y0_35, cloneRs 117 Y0_35, cloneSem 40 117 Y0_35⟩
theorem ok43 : FnOK Tryz.prog 43 F43 := clone_ok E0_ok mix Tryz.func43 rfl (by kernel_rfl) (by kernel_rfl) (fun k => by kernel_rfl) (fun k xs => by kernel_rfl) (fun k xs => by kernel_rfl)
def S44 (k : Nat) (a : List Y0_3) : Option (((List Y0_3) × Unit) × Unit) := cloneSem 272 124 Y0_2 k (a, ())
def F44 : Fn := ⟨clonePs 124 Y0_2, cloneRs 124 Y0_2, cloneSem 272 124 Y0_2⟩
theorem ok44 : FnOK Tryz.prog 44 F44 := clone_ok E0_ok mix Tryz.func44 rfl (by kernel_rfl) (by kernel_rfl) (fun k => by kernel_rfl) (fun k xs => by kernel_rfl) (fun k xs => by kernel_rfl)
def S87 (k : Nat) (a : List (Int × Int × Int)) : Option (((List (Int × Int × Int)) × Unit) × Unit) := cloneSem 24 177 (.pair (.int .i64) Y0_16) k (a, ())
def F87 : Fn := ⟨clonePs 177 (.pair (.int .i64) Y0_16), cloneRs 177 (.pair (.int .i64) Y0_16), cloneSem 24 177 (.pair (.int .i64) Y0_16)⟩
theorem ok87 : FnOK Tryz.prog 87 F87 := clone_ok E0_ok mix Tryz.func87 rfl (by kernel_rfl) (by kernel_rfl) (fun k => by kernel_rfl) (fun k xs => by kernel_rfl) (fun k xs => by kernel_rfl)
def S89 (k : Nat) (a : List Int) : Option Y0_19 := cloneSem 8 3 (.int .i64) k (a, ())
def F89 : Fn := ⟨clonePs 3 (.int .i64), cloneRs 3 (.int .i64), cloneSem 8 3 (.int .i64)⟩
theorem ok89 : FnOK Tryz.prog 89 F89 := clone_ok E0_ok mix Tryz.func89 rfl (by kernel_rfl) (by kernel_rfl) (fun k => by kernel_rfl) (fun k xs => by kernel_rfl) (fun k xs => by kernel_rfl)
def S90 (k : Nat) (a b : Int) : Option Y0_15 :=
 some ((a == b, ()), ())
def F90 : Fn := ⟨[.val ⟨false, (.int .i64), false⟩, .pv (.ref (.int .i64))], [.val ⟨false, .bool, true⟩], fun k x => S90 k x.1 x.2.1⟩
theorem ok90 : FnOK Tryz.prog 90 F90 := okF [] [] (fun k => .nil) trivial Tryz.func90 rfl
abbrev c131c_L2 : Cut := ⟨[0, 1, 7, 8], [.cell Y0_18, .clo 90 [.ref (.int .i64)], cI, cI], [], 19, []⟩
def l131c_2 (k : Nat) (g2 : (List Int) → Int → Int → Int → Option Y0_12) (a : List Int) (b c e : Int) : Option Y0_12 :=
 (bif decide (e < c) then
  ix a e <|
  (S90 k (rd a e 0) b).bind fun q0 =>
  (bif q0.1.1 then
   some ((e, ()), ())
  else
   g2 a b c (IntKind.i64.wrap (e + 1)))
 else
  some (((-1), ()), ()))
def b131c_2 (k : Nat) (g : ((Unit) × (List Int) × Y0_53 × Int × Int × Unit) → Option Y0_12) (d : (Unit) × (List Int) × Y0_53 × Int × Int × Unit) : Option Y0_12 := l131c_2 k (fun a b c e => g ((), a, (b, ()), c, e, ())) d.2.1 d.2.2.1.1 d.2.2.2.1 d.2.2.2.2.1
def L131c_2 (k a : Nat) (b : List Int) (c e f : Int) : Option Y0_12 := iter (R := Y0_53 × Unit) c131c_L2 (b131c_2 k) a ((), b, (c, ()), e, f, ())
theorem L131c_2_s (k a b c e f) : L131c_2 k (a + 1) b c e f = l131c_2 k (L131c_2 k a) b c e f := iter_succ _ _ _ _
def S131c (k : Nat) (a : List Int) (b : Int) : Option Y0_12 :=
 L131c_2 k k a b (a.length : Int) 0
def F131c : Fn := ⟨[.val ⟨false, Y0_18, false⟩, .pv (.clo 90 [.ref (.int .i64)])], [.val ⟨false, (.int .i64), true⟩], fun k x => S131c k x.1 x.2.1.1⟩
theorem ok131c : FnOK Tryz.prog 131 F131c := okF [(90, F90)] [] (fun k => (.loop 2 c131c_L2 (b131c_2 k) (fun g => .nil) .nil)) ⟨ok90, trivial⟩ Tryz.func131 rfl
abbrev c88_L5 : Cut := ⟨[0, 1, 5, 6], [.pin true 0, .clo 90 [.ref (.int .i64)], cI, cI], [.mrow 3 (.int .i64)], 42, []⟩
def l88_5 (k : Nat) (g5 : (List Int) → Int → Int → Int → Option Y0_19) (a : List Int) (b c e : Int) : Option Y0_19 :=
 (bif decide (e < (a.length : Int)) then
  ix a e <|
  (S90 k (rd a e 0) b).bind fun q1 =>
  (bif !q1.1.1 then
   ix a c <|
   g5 (upd a c (rd a e 0)) b (IntKind.i64.wrap (c + 1)) (IntKind.i64.wrap (e + 1))
  else
   g5 a b c (IntKind.i64.wrap (e + 1)))
 else
  sx a c (a.length : Int) <|
  sx (clr a c (a.length : Int) 0) 0 c <|
  some (((clr a c (a.length : Int) 0).take c.toNat, ()), ()))
def b88_5 (k : Nat) (g : (((List Int) × Unit) × Unit × Y0_53 × Int × Int × Unit) → Option Y0_19) (d : ((List Int) × Unit) × Unit × Y0_53 × Int × Int × Unit) : Option Y0_19 := l88_5 k (fun a b c e => g ((a, ()), (), (b, ()), c, e, ())) d.1.1 d.2.2.1.1 d.2.2.2.1 d.2.2.2.2.1
def L88_5 (k a : Nat) (b : List Int) (c e f : Int) : Option Y0_19 := iter (R := ((List Int) × Unit) × Unit) c88_L5 (b88_5 k) a ((b, ()), (), (c, ()), e, f, ())
theorem L88_5_s (k a b c e f) : L88_5 k (a + 1) b c e f = l88_5 k (L88_5 k a) b c e f := iter_succ _ _ _ _
def S88 (k : Nat) (a : List Int) (b : Int) : Option Y0_19 :=
 (S131c k a b).bind fun q0 =>
 (bif q0.1.1 == (-1) then
  some ((a, ()), ())
 else
  L88_5 k k a b q0.1.1 (IntKind.i64.wrap (q0.1.1 + 1)))
def F88 : Fn := ⟨[.give 3 (.int .i64), .pv (.clo 90 [.ref (.int .i64)])], [.val ⟨false, Y0_18, true⟩], fun k x => S88 k x.1 x.2.1.1⟩
theorem ok88 : FnOK Tryz.prog 88 F88 := okF [(90, F90), (131, F131c)] [(41, 1)] (fun k => (.loop 5 c88_L5 (b88_5 k) (fun g => .nil) .nil)) ⟨ok90, ok131c, trivial⟩ Tryz.func88 rfl
def S46 (k : Nat) (a : Int × Int × Int × Int × Y0_50 × Y0_50 × (List Int) × Bool) (b : Int) : Option ((Y0_3 × Unit) × Unit) :=
 (S87 k a.2.2.2.2.1.2.2.1).bind fun q0 =>
 (S87 k a.2.2.2.2.2.1.2.2.1).bind fun q1 =>
 (S89 k a.2.2.2.2.2.2.1).bind fun q2 =>
 (S88 k q2.1.1 b).bind fun q3 =>
 some (((a.1, a.2.1, a.2.2.1, a.2.2.2.1, (a.2.2.2.2.1.1, a.2.2.2.2.1.2.1, q0.1.1, a.2.2.2.2.1.2.2.2), (a.2.2.2.2.2.1.1, a.2.2.2.2.2.1.2.1, q1.1.1, a.2.2.2.2.2.1.2.2.2), q3.1.1, a.2.2.2.2.2.2.2), ()), ())
def F46 : Fn := ⟨[.val ⟨true, Y0_2, false⟩, .val ⟨false, (.int .i64), false⟩], [.val ⟨true, Y0_2, true⟩], fun k x => S46 k x.1 x.2.1⟩
theorem ok46 : FnOK Tryz.prog 46 F46 := okF [(87, F87), (88, F88), (89, F89)] [] (fun k => .nil) ⟨ok87, ok88, ok89, trivial⟩ Tryz.func46 rfl
def S111 (k : Nat) (a : List Bool) : Option (((List Bool) × Unit) × Unit) := cloneSem 1 4 .bool k (a, ())
def F111 : Fn := ⟨clonePs 4 .bool, cloneRs 4 .bool, cloneSem 1 4 .bool⟩
theorem ok111 : FnOK Tryz.prog 111 F111 := clone_ok E0_ok mix Tryz.func111 rfl (by kernel_rfl) (by kernel_rfl) (fun k => by kernel_rfl) (fun k xs => by kernel_rfl) (fun k xs => by kernel_rfl)
def S125 (k : Nat) (a : List Int) : Option Y0_19 := cloneSem 8 2 (.int .i64) k (a, ())
def F125 : Fn := ⟨clonePs 2 (.int .i64), cloneRs 2 (.int .i64), cloneSem 8 2 (.int .i64)⟩
theorem ok125 : FnOK Tryz.prog 125 F125 := clone_ok E0_ok mix Tryz.func125 rfl (by kernel_rfl) (by kernel_rfl) (fun k => by kernel_rfl) (fun k xs => by kernel_rfl) (fun k xs => by kernel_rfl)
def S82 (k : Nat) (a : Y0_31) : Option Y0_32 := cloneSem 16 109 Y0_66 k (a, ())
def F82 : Fn := ⟨clonePs 109 Y0_66, cloneRs 109 Y0_66, cloneSem 16 109 Y0_66⟩
theorem ok82 : FnOK Tryz.prog 82 F82 := clone_ok E0_ok mix Tryz.func82 rfl (by kernel_rfl) (by kernel_rfl) (fun k => by kernel_rfl) (fun k xs => by kernel_rfl) (fun k xs => by kernel_rfl)
def S79 (k : Nat) (x : Y0_41) : Option ((Y0_4 × Unit) × Unit) :=
 (S125 k x.2.2.2.1.1).bind fun q0 =>
 (S89 k x.2.2.2.1.2).bind fun q1 =>
 (S82 k x.2.2.2.2.1.2).bind fun q2 =>
 some (((x.1, x.2.1, x.2.2.1, (q0.1.1, q1.1.1), (x.2.2.2.2.1.1, q2.1.1), x.2.2.2.2.2), ()), ())
def F79 : Fn := ⟨[.val ⟨true, Y0_5, false⟩], [.val ⟨true, Y0_5, true⟩], fun k x => S79 k x.1⟩
theorem ok79 : FnOK Tryz.prog 79 F79 := okF [(82, F82), (89, F89), (125, F125)] [] (fun k => .nil) ⟨ok82, ok89, ok125, trivial⟩ Tryz.func79 rfl
abbrev c64_L3 : Cut := ⟨[2, 3, 17, 18, 19], [.box 32 [.nil, .nil, .nil], .box 32 [.own 3 (.int .i64), .own 4 .bool, .own 97 Y0_5], .cell (.sl 97 Y0_5), cI, cI], [], 32, []⟩
def l64_3 (k : Nat) (g3 : (List Int) → (List Bool) → (List Y0_4) → (List Y0_4) → Int → Int → Option Y0_45) (a : List Int) (b : List Bool) (c e : List Y0_4) (f h : Int) : Option Y0_45 :=
 (bif decide (h < f) then
  ix e h <|
  (S79 k (rd e h (0, (0, 0), (0, 0), ([], []), (0, []), 0))).bind fun q2 =>
  ap c ([q2.1.1] : List Y0_4) 128 fun r3 =>
  g3 a b r3 e f (IntKind.i64.wrap (h + 1))
 else
  some ((((a, b), c), ()), ()))
def b64_3 (k : Nat) (g : ((Unit) × (Unit × Unit × Unit × Unit) × Y0_61 × (List Y0_4) × Int × Int × Unit) → Option Y0_45) (d : (Unit) × (Unit × Unit × Unit × Unit) × Y0_61 × (List Y0_4) × Int × Int × Unit) : Option Y0_45 := l64_3 k (fun a b c e f h => g ((), ((), (), (), ()), (a, b, c, ()), e, f, h, ())) d.2.2.1.1 d.2.2.1.2.1 d.2.2.1.2.2.1 d.2.2.2.1 d.2.2.2.2.1 d.2.2.2.2.2.1
def L64_3 (k a : Nat) (b : List Int) (c : List Bool) (e f : List Y0_4) (h i : Int) : Option Y0_45 := iter (R := ((Y0_26 × List Y0_4) × Unit) × Unit) c64_L3 (b64_3 k) a ((), ((), (), (), ()), (b, c, e, ()), f, h, i, ())
theorem L64_3_s (k a b c e f h i) : L64_3 k (a + 1) b c e f h i = l64_3 k (L64_3 k a) b c e f h i := iter_succ _ _ _ _
def S64 (k : Nat) (a : Y0_26 × List Y0_4) : Option Y0_45 :=
 (S89 k a.1.1).bind fun q0 =>
 (S111 k a.1.2).bind fun q1 =>
 L64_3 k k q0.1.1 q1.1.1 ([] : List Y0_4) a.2 (a.2.length : Int) 0
def F64 : Fn := ⟨[.val ⟨true, Y0_55, false⟩], [.val ⟨true, Y0_55, true⟩], fun k x => S64 k x.1⟩
theorem ok64 : FnOK Tryz.prog 64 F64 := okF [(79, F79), (89, F89), (111, F111)] [(15, 2)] (fun k => (.loop 3 c64_L3 (b64_3 k) (fun g => .nil) .nil)) ⟨ok79, ok89, ok111, trivial⟩ Tryz.func64 rfl
def S78 (k : Nat) (a : Y0_26 × List Y0_4) (b : Int) : Option Y0_15 :=
 (bif decide (b ≥ 0) then
  (bif decide (b < (a.2.length : Int)) then
   ix a.2 b <|
   some (((rd a.2 b (0, (0, 0), (0, 0), ([], []), (0, []), 0)).1 != 0, ()), ())
  else
   some ((false, ()), ()))
 else
  some ((false, ()), ()))
def F78 : Fn := ⟨[.val ⟨true, Y0_55, false⟩, .val ⟨false, (.int .i64), false⟩], [.val ⟨false, .bool, true⟩], fun k x => S78 k x.1 x.2.1⟩
theorem ok78 : FnOK Tryz.prog 78 F78 := okF [] [] (fun k => .nil) trivial Tryz.func78 rfl
abbrev c126_L6 : Cut := ⟨[3, 6, 7, 8, 9, 10], [.cell (.int .u32), .cell (.int .u64), cI, .cell Y0_62, cI, cI], [], 34, []⟩
def l126_6 (k : Nat) (g3 : Y0_46) (g6 : Int → Int → Int → (List Int) → Int → Int → Option Y0_12) (a b c : Int) (e : List Int) (f h : Int) : Option Y0_12 :=
 (bif decide (c < 8) then
  g6 (ixor .u32 (ior .u32 (ishl .u32 a 5) (ishr .u32 a 27)) (IntKind.u32.wrap (IntKind.u8.wrap b))) (ishr .u64 b 8) (IntKind.i64.wrap (c + 1)) e f h
 else
  g3 a e f (IntKind.i64.wrap (h + 1)))
def b126_6 (k : Nat) (g3 : Y0_46) (g : ((Unit) × Int × Int × Int × (List Int) × Int × Int × Unit) → Option Y0_12) (d : (Unit) × Int × Int × Int × (List Int) × Int × Int × Unit) : Option Y0_12 := l126_6 k g3 (fun a b c e f h => g ((), a, b, c, e, f, h, ())) d.2.1 d.2.2.1 d.2.2.2.1 d.2.2.2.2.1 d.2.2.2.2.2.1 d.2.2.2.2.2.2.1
def L126_6 (k : Nat) (g3 : Y0_46) (a : Nat) (b c e : Int) (f : List Int) (h i : Int) : Option Y0_12 := iter (R := Y0_53 × Unit) c126_L6 (b126_6 k g3) a ((), b, c, e, f, h, i, ())
theorem L126_6_s (k g3 a b c e f h i) : L126_6 k g3 (a + 1) b c e f h i = l126_6 k g3 (L126_6 k g3 a) b c e f h i := iter_succ _ _ _ _
abbrev c126_L3 : Cut := ⟨[3, 8, 9, 10], [.cell (.int .u32), .cell Y0_62, cI, cI], [], 34, []⟩
def l126_3 (k : Nat) (g3 : Y0_46) (a : Int) (b : List Int) (c e : Int) : Option Y0_12 :=
 (bif decide (e < c) then
  ix b e <|
  L126_6 k g3 k a (IntKind.u64.wrap (rd b e 0)) 0 b c e
 else
  some ((a, ()), ()))
def b126_3 (k : Nat) (g : ((Unit) × Int × (List Int) × Int × Int × Unit) → Option Y0_12) (d : (Unit) × Int × (List Int) × Int × Int × Unit) : Option Y0_12 := l126_3 k (fun a b c e => g ((), a, b, c, e, ())) d.2.1 d.2.2.1 d.2.2.2.1 d.2.2.2.2.1
def L126_3 (k a : Nat) (b : Int) (c : List Int) (e f : Int) : Option Y0_12 := iter (R := Y0_53 × Unit) c126_L3 (b126_3 k) a ((), b, c, e, f, ())
theorem L126_3_s (k a b c e f) : L126_3 k (a + 1) b c e f = l126_3 k (L126_3 k a) b c e f := iter_succ _ _ _ _
def S126 (k : Nat) (a : List Int) : Option Y0_12 :=
 L126_3 k k 2166136261 a (a.length : Int) 0
def F126 : Fn := ⟨[.val ⟨false, Y0_62, false⟩], [.val ⟨false, (.int .u32), true⟩], fun k x => S126 k x.1⟩
theorem ok126 : FnOK Tryz.prog 126 F126 := okF [] [] (fun k => (.loop 3 c126_L3 (b126_3 k) (fun g => (fun (g3 : Y0_46) => (.loop 6 c126_L6 (b126_6 k g3) (fun g => .nil) .nil)) (fun h t8 t9 t10 => g ((), h, t8, t9, t10, ()))) .nil)) trivial Tryz.func126 rfl
abbrev c80_L11 : Cut := ⟨[3, 61, 62, 63], [.own 2 (.int .i64), .cell (.sl 109 Y0_66), cI, cI], [], 78, []⟩
def l80_11 (k : Nat) (g11 : (List Int) → Y0_14 → Int → Int → Option Y0_12) (a : List Int) (b : Y0_31) (c e : Int) : Option Y0_12 :=
 (bif decide (e < c) then
  ix b e <|
  ap a ([(rd b e (0, 0)).1, IntKind.i64.wrap (rd b e (0, 0)).2] : List Int) 8 fun r4 =>
  g11 r4 b c (IntKind.i64.wrap (e + 1))
 else
  (S126 k a).bind fun q5 =>
  some ((q5.1.1, ()), ()))
def b80_11 (k : Nat) (g : ((Unit) × (List Int) × Y0_14 × Int × Int × Unit) → Option Y0_12) (d : (Unit) × (List Int) × Y0_14 × Int × Int × Unit) : Option Y0_12 := l80_11 k (fun a b c e => g ((), a, b, c, e, ())) d.2.1 d.2.2.1 d.2.2.2.1 d.2.2.2.2.1
def L80_11 (k a : Nat) (b : List Int) (c : Y0_31) (e f : Int) : Option Y0_12 := iter (R := Y0_53 × Unit) c80_L11 (b80_11 k) a ((), b, c, e, f, ())
theorem L80_11_s (k a b c e f) : L80_11 k (a + 1) b c e f = l80_11 k (L80_11 k a) b c e f := iter_succ _ _ _ _
abbrev c80_L5 : Cut := ⟨[1, 3, 41, 42, 43], [.box 97 [cI, cI, cI, cI, cI, .cell Y0_62, .cell Y0_18, .cell (.int .u32), .cell (.sl 109 Y0_66), .cell (.int .u32)], .own 2 (.int .i64), .cell Y0_18, cI, cI], [], 78, []⟩
def l80_5 (k : Nat) (g5 : Int → Int → Int → Int → Int → (List Int) → (List Int) → Int → Y0_14 → Int → (List Int) → (List Int) → Int → Int → Option Y0_12) (a b c e f : Int) (h i : List Int) (l : Int) (m : Y0_31) (n : Int) (o p : List Int) (s t : Int) : Option Y0_12 :=
 (bif decide (t < s) then
  ix p t <|
  ap o ([rd p t 0] : List Int) 8 fun r2 =>
  g5 a b c e f h i l m n r2 p s (IntKind.i64.wrap (t + 1))
 else
  ap o ([IntKind.i64.wrap l] : List Int) 8 fun r3 =>
  L80_11 k k r3 m (m.length : Int) 0)
def b80_5 (k : Nat) (g : ((Unit) × (Int × Int × Int × Int × Int × (List Int) × (List Int) × Int × Y0_14 × Int × Unit) × (List Int) × (List Int) × Int × Int × Unit) → Option Y0_12) (d : (Unit) × (Int × Int × Int × Int × Int × (List Int) × (List Int) × Int × Y0_14 × Int × Unit) × (List Int) × (List Int) × Int × Int × Unit) : Option Y0_12 := l80_5 k (fun a b c e f h i l m n o p s t => g ((), (a, b, c, e, f, h, i, l, m, n, ()), o, p, s, t, ())) d.2.1.1 d.2.1.2.1 d.2.1.2.2.1 d.2.1.2.2.2.1 d.2.1.2.2.2.2.1 d.2.1.2.2.2.2.2.1 d.2.1.2.2.2.2.2.2.1 d.2.1.2.2.2.2.2.2.2.1 d.2.1.2.2.2.2.2.2.2.2.1 d.2.1.2.2.2.2.2.2.2.2.2.1 d.2.2.1 d.2.2.2.1 d.2.2.2.2.1 d.2.2.2.2.2.1
def L80_5 (k a : Nat) (b c e f h : Int) (i l : List Int) (m : Int) (n : Y0_31) (o : Int) (p s : List Int) (t u : Int) : Option Y0_12 := iter (R := Y0_53 × Unit) c80_L5 (b80_5 k) a ((), (b, c, e, f, h, i, l, m, n, o, ()), p, s, t, u, ())
theorem L80_5_s (k a b c e f h i l m n o p s t u) : L80_5 k (a + 1) b c e f h i l m n o p s t u = l80_5 k (L80_5 k a) b c e f h i l m n o p s t u := iter_succ _ _ _ _
def S80 (k : Nat) (x : Y0_41) : Option Y0_12 :=
 ap ([x.1, x.2.1.1, x.2.1.2, x.2.2.1.1, x.2.2.1.2, (x.2.2.2.1.1.length : Int)] : List Int) x.2.2.2.1.1 8 fun r0 =>
 ap r0 ([(x.2.2.2.1.2.length : Int)] : List Int) 8 fun r1 =>
 L80_5 k k x.1 x.2.1.1 x.2.1.2 x.2.2.1.1 x.2.2.1.2 x.2.2.2.1.1 x.2.2.2.1.2 x.2.2.2.2.1.1 x.2.2.2.2.1.2 x.2.2.2.2.2 r1 x.2.2.2.1.2 (x.2.2.2.1.2.length : Int) 0
def F80 : Fn := ⟨[.val ⟨true, Y0_5, false⟩], [.val ⟨false, (.int .u32), true⟩], fun k x => S80 k x.1⟩
theorem ok80 : FnOK Tryz.prog 80 F80 := okF [(126, F126)] [] (fun k => (.loop 11 c80_L11 (b80_11 k) (fun g => .nil) (.loop 5 c80_L5 (b80_5 k) (fun g => .nil) .nil))) ⟨ok126, trivial⟩ Tryz.func80 rfl
def S66 (k : Nat) (x : Y0_41) : Option ((Y0_4 × Unit) × Unit) :=
 (S80 k x).bind fun q0 =>
 some (((x.1, x.2.1, x.2.2.1, x.2.2.2.1, x.2.2.2.2.1, q0.1.1), ()), ())
def F66 : Fn := ⟨[.val ⟨true, Y0_5, false⟩], [.val ⟨true, Y0_5, false⟩], fun k x => S66 k x.1⟩
theorem ok66 : FnOK Tryz.prog 66 F66 := okF [(80, F80)] [] (fun k => .nil) ⟨ok80, trivial⟩ Tryz.func66 rfl
def S37 (k : Nat) (a : Y0_26 × List Y0_4) (b : Int) (x : Y0_41) : Option Y0_45 :=
 (S64 k a).bind fun q0 =>
 (S78 k a b).bind fun q1 =>
 (bif !q1.1.1 then
  some ((q0.1.1, ()), ())
 else
  ix a.2 b <|
  (S79 k ((rd a.2 b (0, (0, 0), (0, 0), ([], []), (0, []), 0)).1, (rd a.2 b (0, (0, 0), (0, 0), ([], []), (0, []), 0)).2.1, x.2.2)).bind fun q2 =>
  (S66 k q2.1.1).bind fun q3 =>
  (S80 k (rd a.2 b (0, (0, 0), (0, 0), ([], []), (0, []), 0))).bind fun q4 =>
  (bif (rd a.2 b (0, (0, 0), (0, 0), ([], []), (0, []), 0)).2.2.2.2.2 != q4.1.1 then
   ix q0.1.1.2 b <|
   some (((q0.1.1.1, upd q0.1.1.2 b (q3.1.1.1, q3.1.1.2.1, q3.1.1.2.2.1, q3.1.1.2.2.2.1, q3.1.1.2.2.2.2.1, inot .u32 q3.1.1.2.2.2.2.2)), ()), ())
  else
   ix q0.1.1.2 b <|
   some (((q0.1.1.1, upd q0.1.1.2 b q3.1.1), ()), ())))
def F37 : Fn := ⟨[.val ⟨true, Y0_55, false⟩, .val ⟨false, (.int .i64), false⟩, .val ⟨true, Y0_5, false⟩], [.val ⟨true, Y0_55, true⟩], fun k x => S37 k x.1 x.2.1 x.2.2.1⟩
theorem ok37 : FnOK Tryz.prog 37 F37 := okF [(64, F64), (66, F66), (78, F78), (79, F79), (80, F80)] [] (fun k => .nil) ⟨ok64, ok66, ok78, ok79, ok80, trivial⟩ Tryz.func37 rfl
def S91 (k : Nat) (a : Y0_71) : Option ((Y0_26 × Unit) × Unit) :=
 (S89 k a.1).bind fun q0 =>
 (S111 k a.2).bind fun q1 =>
 some (((q0.1.1, q1.1.1), ()), ())
def F91 : Fn := ⟨[.val ⟨true, Y0_29, false⟩], [.val ⟨true, Y0_29, true⟩], fun k x => S91 k x.1⟩
theorem ok91 : FnOK Tryz.prog 91 F91 := okF [(89, F89), (111, F111)] [] (fun k => .nil) ⟨ok89, ok111, trivial⟩ Tryz.func91 rfl
def S47 (k : Nat) (a : Y0_71) (b : Int) : Option ((Y0_26 × Unit) × Unit) :=
 (S91 k a).bind fun q0 =>
 (bif decide (b ≥ 0) then
  (bif decide (b < (q0.1.1.1.length : Int)) then
   ix q0.1.1.1 b <|
   some (((upd q0.1.1.1 b 0, q0.1.1.2), ()), ())
  else
   some ((q0.1.1, ()), ()))
 else
  some ((q0.1.1, ()), ()))
def F47 : Fn := ⟨[.val ⟨true, Y0_29, false⟩, .val ⟨false, (.int .i64), false⟩], [.val ⟨true, Y0_29, true⟩], fun k x => S47 k x.1 x.2.1⟩
theorem ok47 : FnOK Tryz.prog 47 F47 := okF [(91, F91)] [] (fun k => .nil) ⟨ok91, trivial⟩ Tryz.func47 rfl
abbrev c24_L8 : Cut := ⟨[1, 2, 54, 55], [.box 36 [cI, cI, .own 43 Y0_1, .own 117 Y0_35, .cell .bool, .cell .bool, .cell .bool, .own 124 Y0_2, .cell Y0_18, .cell Y0_57, .cell (.sl 97 Y0_5), .cell Y0_18, .cell Y0_57], .box 36 [cI, cI, .nil, .nil, .cell .bool, .cell .bool, .cell .bool, .nil, .nil, .nil, .nil, .nil, .nil], cI, cI], [], 77, [(53, 3)]⟩
def l24_8 (k : Nat) (g8 : Y0_43) (a b : Int) (c : List Y0_0) (e : List (PN Int 5)) (f h i : Bool) (l : List Y0_3) (m : List Int) (n : List Bool) (o : List Y0_4) (p : List Int) (s : List Bool) (t u : Int) (v w y : Bool) (z A : Int) : Option Y0_58 :=
 (bif decide (A < z) then
  ix l A <|
  (S46 k (rd l A (0, 0, 0, 0, (0, prep (α := Int) 8 0, [], false), (0, prep (α := Int) 8 0, [], false), [], false)) (-1)).bind fun q7 =>
  ix l A <|
  g8 a b c e f h i (upd l A q7.1.1) m n o p s t u v w y z (IntKind.i64.wrap (A + 1))
 else
  (S37 k ((m, n), o) (-1) (0, (0, 0), (0, 0), ([], []), (0, []), 0)).bind fun q8 =>
  (S47 k (p, s) (-1)).bind fun q9 =>
  some (((a, b, c, e, f, h, i, l, q8.1.1, q9.1.1), ()), ()))
def b24_8 (k : Nat) (g : ((Unit) × Y0_9 × Y0_21 × Int × Int × Unit) → Option Y0_58) (d : (Unit) × Y0_9 × Y0_21 × Int × Int × Unit) : Option Y0_58 := l24_8 k (fun a b c e f h i l m n o p s t u v w y z A => g ((), (a, b, c, e, f, h, i, l, m, n, o, p, s, ()), (t, u, (), (), v, w, y, (), (), (), (), (), (), ()), z, A, ())) d.2.1.1 d.2.1.2.1 d.2.1.2.2.1 d.2.1.2.2.2.1 d.2.1.2.2.2.2.1 d.2.1.2.2.2.2.2.1 d.2.1.2.2.2.2.2.2.1 d.2.1.2.2.2.2.2.2.2.1 d.2.1.2.2.2.2.2.2.2.2.1 d.2.1.2.2.2.2.2.2.2.2.2.1 d.2.1.2.2.2.2.2.2.2.2.2.2.1 d.2.1.2.2.2.2.2.2.2.2.2.2.2.1 d.2.1.2.2.2.2.2.2.2.2.2.2.2.2.1 d.2.2.1.1 d.2.2.1.2.1 d.2.2.1.2.2.2.2.1 d.2.2.1.2.2.2.2.2.1 d.2.2.1.2.2.2.2.2.2.1 d.2.2.2.1 d.2.2.2.2.1
def L24_8 (k a : Nat) (b c : Int) (e : List Y0_0) (f : List (PN Int 5)) (h i l : Bool) (m : List Y0_3) (n : List Int) (o : List Bool) (p : List Y0_4) (s : List Int) (t : List Bool) (u v : Int) (w y z : Bool) (A B : Int) : Option Y0_58 := iter (R := (Y0_8 × Unit) × Unit) c24_L8 (b24_8 k) a ((), (b, c, e, f, h, i, l, m, n, o, p, s, t, ()), (u, v, (), (), w, y, z, (), (), (), (), (), (), ()), A, B, ())
theorem L24_8_s (k a b c e f h i l m n o p s t u v w y z A B) : L24_8 k (a + 1) b c e f h i l m n o p s t u v w y z A B = l24_8 k (L24_8 k a) b c e f h i l m n o p s t u v w y z A B := iter_succ _ _ _ _
abbrev c24_L3 : Cut := ⟨[1, 2, 21, 22], [.box 36 [cI, cI, .own 43 Y0_1, .own 117 Y0_35, .cell .bool, .cell .bool, .cell .bool, .own 124 Y0_2, .cell Y0_18, .cell Y0_57, .cell (.sl 97 Y0_5), .cell Y0_18, .cell Y0_57], .box 36 [cI, cI, .nil, .nil, .cell .bool, .cell .bool, .cell .bool, .nil, .nil, .nil, .nil, .nil, .nil], cI, cI], [], 77, [(20, 1)]⟩
def l24_3 (k : Nat) (g3 : Y0_43) (a b : Int) (c : List Y0_0) (e : List (PN Int 5)) (f h i : Bool) (l : List Y0_3) (m : List Int) (n : List Bool) (o : List Y0_4) (p : List Int) (s : List Bool) (t u : Int) (v w y : Bool) (z A : Int) : Option Y0_58 :=
 (bif decide (A < z) then
  ix c A <|
  (S45 k (rd c A (0, 0, 0, [], [], [])).2.2.2.1).bind fun q3 =>
  (S45 k (rd c A (0, 0, 0, [], [], [])).2.2.2.2.1).bind fun q4 =>
  (S45 k (rd c A (0, 0, 0, [], [], [])).2.2.2.2.2).bind fun q5 =>
  ix c A <|
  ix (upd c A ((rd c A (0, 0, 0, [], [], [])).1, (rd c A (0, 0, 0, [], [], [])).2.1, (rd c A (0, 0, 0, [], [], [])).2.2.1, q3.1.1, (rd c A (0, 0, 0, [], [], [])).2.2.2.2)) A <|
  let r6 : List Y0_0 := upd (upd c A ((rd c A (0, 0, 0, [], [], [])).1, (rd c A (0, 0, 0, [], [], [])).2.1, (rd c A (0, 0, 0, [], [], [])).2.2.1, q3.1.1, (rd c A (0, 0, 0, [], [], [])).2.2.2.2)) A ((rd (upd c A ((rd c A (0, 0, 0, [], [], [])).1, (rd c A (0, 0, 0, [], [], [])).2.1, (rd c A (0, 0, 0, [], [], [])).2.2.1, q3.1.1, (rd c A (0, 0, 0, [], [], [])).2.2.2.2)) A (0, 0, 0, [], [], [])).1, (rd (upd c A ((rd c A (0, 0, 0, [], [], [])).1, (rd c A (0, 0, 0, [], [], [])).2.1, (rd c A (0, 0, 0, [], [], [])).2.2.1, q3.1.1, (rd c A (0, 0, 0, [], [], [])).2.2.2.2)) A (0, 0, 0, [], [], [])).2.1, (rd (upd c A ((rd c A (0, 0, 0, [], [], [])).1, (rd c A (0, 0, 0, [], [], [])).2.1, (rd c A (0, 0, 0, [], [], [])).2.2.1, q3.1.1, (rd c A (0, 0, 0, [], [], [])).2.2.2.2)) A (0, 0, 0, [], [], [])).2.2.1, (rd (upd c A ((rd c A (0, 0, 0, [], [], [])).1, (rd c A (0, 0, 0, [], [], [])).2.1, (rd c A (0, 0, 0, [], [], [])).2.2.1, q3.1.1, (rd c A (0, 0, 0, [], [], [])).2.2.2.2)) A (0, 0, 0, [], [], [])).2.2.2.1, q4.1.1, (rd (upd c A ((rd c A (0, 0, 0, [], [], [])).1, (rd c A (0, 0, 0, [], [], [])).2.1, (rd c A (0, 0, 0, [], [], [])).2.2.1, q3.1.1, (rd c A (0, 0, 0, [], [], [])).2.2.2.2)) A (0, 0, 0, [], [], [])).2.2.2.2.2)
  ix r6 A <|
  g3 a b (upd r6 A ((rd r6 A (0, 0, 0, [], [], [])).1, (rd r6 A (0, 0, 0, [], [], [])).2.1, (rd r6 A (0, 0, 0, [], [], [])).2.2.1, (rd r6 A (0, 0, 0, [], [], [])).2.2.2.1, (rd r6 A (0, 0, 0, [], [], [])).2.2.2.2.1, q5.1.1)) e f h i l m n o p s t u v w y z (IntKind.i64.wrap (A + 1))
 else
  L24_8 k k a b c e f h i l m n o p s t u v w y (l.length : Int) 0)
def b24_3 (k : Nat) (g : ((Unit) × Y0_9 × Y0_21 × Int × Int × Unit) → Option Y0_58) (d : (Unit) × Y0_9 × Y0_21 × Int × Int × Unit) : Option Y0_58 := l24_3 k (fun a b c e f h i l m n o p s t u v w y z A => g ((), (a, b, c, e, f, h, i, l, m, n, o, p, s, ()), (t, u, (), (), v, w, y, (), (), (), (), (), (), ()), z, A, ())) d.2.1.1 d.2.1.2.1 d.2.1.2.2.1 d.2.1.2.2.2.1 d.2.1.2.2.2.2.1 d.2.1.2.2.2.2.2.1 d.2.1.2.2.2.2.2.2.1 d.2.1.2.2.2.2.2.2.2.1 d.2.1.2.2.2.2.2.2.2.2.1 d.2.1.2.2.2.2.2.2.2.2.2.1 d.2.1.2.2.2.2.2.2.2.2.2.2.1 d.2.1.2.2.2.2.2.2.2.2.2.2.2.1 d.2.1.2.2.2.2.2.2.2.2.2.2.2.2.1 d.2.2.1.1 d.2.2.1.2.1 d.2.2.1.2.2.2.2.1 d.2.2.1.2.2.2.2.2.1 d.2.2.1.2.2.2.2.2.2.1 d.2.2.2.1 d.2.2.2.2.1
def L24_3 (k a : Nat) (b c : Int) (e : List Y0_0) (f : List (PN Int 5)) (h i l : Bool) (m : List Y0_3) (n : List Int) (o : List Bool) (p : List Y0_4) (s : List Int) (t : List Bool) (u v : Int) (w y z : Bool) (A B : Int) : Option Y0_58 := iter (R := (Y0_8 × Unit) × Unit) c24_L3 (b24_3 k) a ((), (b, c, e, f, h, i, l, m, n, o, p, s, t, ()), (u, v, (), (), w, y, z, (), (), (), (), (), (), ()), A, B, ())
theorem L24_3_s (k a b c e f h i l m n o p s t u v w y z A B) : L24_3 k (a + 1) b c e f h i l m n o p s t u v w y z A B = l24_3 k (L24_3 k a) b c e f h i l m n o p s t u v w y z A B := iter_succ _ _ _ _
def S24 (k : Nat) (a : Y0_20) : Option Y0_58 :=
 (S42 k a.2.2.1).bind fun q0 =>
 (S43 k a.2.2.2.1).bind fun q1 =>
 (S44 k a.2.2.2.2.2.2.2.1).bind fun q2 =>
 L24_3 k k a.1 a.2.1 q0.1.1 q1.1.1 a.2.2.2.2.1 a.2.2.2.2.2.1 a.2.2.2.2.2.2.1 q2.1.1 a.2.2.2.2.2.2.2.2.1.1.1 a.2.2.2.2.2.2.2.2.1.1.2 a.2.2.2.2.2.2.2.2.1.2 a.2.2.2.2.2.2.2.2.2.1 a.2.2.2.2.2.2.2.2.2.2 0 0 false false false (q0.1.1.length : Int) 0
def F24 : Fn := ⟨[.val ⟨true, Y0_10, false⟩], [.val ⟨true, Y0_10, true⟩], fun k x => S24 k x.1⟩
theorem ok24 : FnOK Tryz.prog 24 F24 := okF [(37, F37), (42, F42), (43, F43), (44, F44), (45, F45), (46, F46), (47, F47)] [] (fun k => (.loop 8 c24_L8 (b24_8 k) (fun g => .nil) (.loop 3 c24_L3 (b24_3 k) (fun g => .nil) .nil))) ⟨ok37, ok42, ok43, ok44, ok45, ok46, ok47, trivial⟩ Tryz.func24 rfl
def S120 (k : Nat) (a : Int × Int × Int × Int × Y0_50 × Y0_50 × (List Int) × Bool) (b : Int) : Option Y0_12 :=
 some ((IntKind.i64.wrap (a.1 - b), ()), ())
def F120 : Fn := ⟨[.val ⟨true, Y0_2, false⟩, .val ⟨false, (.int .i64), false⟩], [.val ⟨false, (.int .i64), true⟩], fun k x => S120 k x.1 x.2.1⟩
theorem ok120 : FnOK Tryz.prog 120 F120 := okF [] [] (fun k => .nil) trivial Tryz.func120 rfl
abbrev c119_L3 : Cut := ⟨[0, 1, 2, 8, 9, 10], [.cell (.sl 124 Y0_2), cI, .clo 120 [], cI, cI, cI], [], 49, []⟩
def l119_3 (k : Nat) (g3 : (List Y0_3) → Int → Int → Int → Int → Option Y0_34) (a : List Y0_3) (b c e f : Int) : Option Y0_34 :=
 (bif decide (e < f) then
  ix a (IntKind.i64.wrap (ishr .u64 (IntKind.u64.wrap (IntKind.i64.wrap (e + f))) 1)) <|
  (S120 k (rd a (IntKind.i64.wrap (ishr .u64 (IntKind.u64.wrap (IntKind.i64.wrap (e + f))) 1)) (0, 0, 0, 0, (0, prep (α := Int) 8 0, [], false), (0, prep (α := Int) 8 0, [], false), [], false)) b).bind fun q0 =>
  (bif decide (q0.1.1 < 0) then
   g3 a b c (IntKind.i64.wrap ((IntKind.i64.wrap (ishr .u64 (IntKind.u64.wrap (IntKind.i64.wrap (e + f))) 1)) + 1)) f
  else
   g3 a b c e (IntKind.i64.wrap (ishr .u64 (IntKind.u64.wrap (IntKind.i64.wrap (e + f))) 1)))
 else
  (bif decide (e < c) then
   ix a e <|
   (S120 k (rd a e (0, 0, 0, 0, (0, prep (α := Int) 8 0, [], false), (0, prep (α := Int) 8 0, [], false), [], false)) b).bind fun q1 =>
   some ((e, q1.1.1 == 0, ()), ())
  else
   some ((e, false, ()), ())))
def b119_3 (k : Nat) (g : ((Unit) × (List Y0_3) × Int × Unit × Int × Int × Int × Unit) → Option Y0_34) (d : (Unit) × (List Y0_3) × Int × Unit × Int × Int × Int × Unit) : Option Y0_34 := l119_3 k (fun a b c e f => g ((), a, b, (), c, e, f, ())) d.2.1 d.2.2.1 d.2.2.2.2.1 d.2.2.2.2.2.1 d.2.2.2.2.2.2.1
def L119_3 (k a : Nat) (b : List Y0_3) (c e f h : Int) : Option Y0_34 := iter (R := Y0_69 × Unit) c119_L3 (b119_3 k) a ((), b, c, (), e, f, h, ())
theorem L119_3_s (k a b c e f h) : L119_3 k (a + 1) b c e f h = l119_3 k (L119_3 k a) b c e f h := iter_succ _ _ _ _
def S119 (k : Nat) (x : List Y0_3) (a : Int) : Option Y0_34 :=
 L119_3 k k x a (x.length : Int) 0 (x.length : Int)
def F119 : Fn := ⟨[.val ⟨false, (.sl 124 Y0_2), false⟩, .val ⟨false, (.int .i64), false⟩, .pv (.clo 120 [])], [.val ⟨false, (.int .i64), true⟩, .val ⟨false, .bool, true⟩], fun k x => S119 k x.1 x.2.1⟩
theorem ok119 : FnOK Tryz.prog 119 F119 := okF [(120, F120)] [] (fun k => (.loop 3 c119_L3 (b119_3 k) (fun g => .nil) .nil)) ⟨ok120, trivial⟩ Tryz.func119 rfl
def S73 (k : Nat) (a : Y0_20) (b : Int) : Option Y0_34 :=
 (S119 k a.2.2.2.2.2.2.2.1 b).bind fun q0 =>
 some (q0.1, ())
def F73 : Fn := ⟨[.pv (.ref Y0_10), .val ⟨false, (.int .i64), false⟩], [.val ⟨false, (.int .i64), true⟩, .val ⟨false, .bool, true⟩], fun k x => S73 k x.1 x.2.1⟩
theorem ok73 : FnOK Tryz.prog 73 F73 := okF [(119, F119)] [] (fun k => .nil) ⟨ok119, trivial⟩ Tryz.func73 rfl
section
variable (w : World) {g n c i j : Nat}
theorem delF57_t : Tryz.prog.underlying 25 = some (.slice 124) ∧ Tryz.prog.underlying 3 = some (.int .i64) ∧ Tryz.prog.underlying 4 = some .bool ∧ Tryz.prog.follows .mixedOrders = true ∧ (∀ w, (Go.sizeOf 124).run Tryz.prog w = .ok 28 w) ∧ Tryz.f57.ntmps = 33 := ⟨by kernel_rfl, by kernel_rfl, by kernel_rfl, by kernel_rfl, fun w => by kernel_rfl, rfl⟩
theorem delF57_none {v : Value} (hv : (∃ A n c, v = .slice A n c ∧ i ≤ n ∧ n ≤ c ∧ c ≤ 9223372036854775807)) : Calls Tryz.prog 57 #[v, .int .i64 i, .int .i64 i] w fun e w' => e = .returned v ∧ w' = w := by
 obtain ⟨t24, t3, t4, mixed, z36, hnt⟩ := delF57_t
 have u24 := run_underlying t24; have u3 := run_underlying t3; have u4 := run_underlying t4
 obtain ⟨A, n, c, rfl, hi, hnc, hc63⟩ := hv
 have hi0 : (i : Int) ≤ (n : Int) := by omega
 have hi1 : (0 : Int) ≤ (i : Int) := by omega
 cases A <;> (go_enter Tryz.func57, hnt; go_wp2 <;> (go_ret; exact ⟨rfl, rfl⟩))
theorem delF57_some {w' w'' : World} (hlt : i < j) (hj : j ≤ n) (hnc : n ≤ c) (hc63 : c ≤ 9223372036854775807)
  (hap : ∀ ty A, (c ≠ j → A = (⟨g, j * 28, none⟩ : Addr)) → (Builtin.append_ #[25, 25] ty #[.slice (some ⟨g, 0, none⟩) i c, .slice (some A) (n - j) (c - j)]).run Tryz.prog w.drew = .ok (.slice (some ⟨g, 0, none⟩) (i + (n - j)) c) w')
  (hcl : ∀ ty dc, (Builtin.clear_ #[25] ty #[.slice (some ⟨g, (i + (n - j)) * 28, none⟩) (n - (i + (n - j))) dc]).run Tryz.prog w' = .ok (.tuple #[]) w'') :
  Calls Tryz.prog 57 #[.slice (some ⟨g, 0, none⟩) n c, .int .i64 i, .int .i64 j] w fun e w1 => e = .returned (.slice (some ⟨g, 0, none⟩) (i + (n - j)) c) ∧ w1 = w'' := by
 obtain ⟨t24, t3, t4, mixed, z36, hnt⟩ := delF57_t
 have u24 := run_underlying t24; have u3 := run_underlying t3; have u4 := run_underlying t4
 have hi0 : (i : Int) ≤ (n : Int) := by omega
 have hj0 : (j : Int) ≤ (n : Int) := by omega
 have hij : (i : Int) ≤ (j : Int) := by omega
 have hne : ¬ ((i : Int) = (j : Int)) := by omega
 have hic : i ≤ c := by omega
 have hjc : j ≤ c := by omega
 have hln : i + (n - j) ≤ n := by omega
 have hlc : i + (n - j) ≤ c := by omega
 have hci : ¬ (c = i + (n - j)) := by omega
 obtain ⟨A, hA, hA'⟩ : ∃ A : Addr, (if c = j then some (⟨g, 0, none⟩ : Addr) else some ⟨g, j * 28, none⟩) = some A ∧ (c ≠ j → A = (⟨g, j * 28, none⟩ : Addr)) := by
  by_cases h : c = j
  · exact ⟨_, if_pos h, fun q => absurd h q⟩
  · exact ⟨_, if_neg h, fun _ => rfl⟩
 try simp only [Nat.mul_one] at hA hcl
 go_enter Tryz.func57, hnt
 go_wp2_with fail
 go_region_law_o (refine append_step rfl rfl _ _ (by simp [Act.eval, Act.put]) (by simp [Act.eval, Act.put, hA]) (hap _ _ hA') ?_)
 go_wp2_with (at_builtin; refine clear_list rfl rfl _ rfl (hcl _ _) ?_)
 go_ret
 exact ⟨rfl, rfl⟩
end
abbrev P57 : List PT := delPs 124 Y0_2
abbrev R57 : List RT := delRs 124 Y0_2
def S57 (k : Nat) (a : List Y0_3) (i j : Int) : Option (((List Y0_3) × Unit) × Unit) := delSem 124 Y0_2 k (a, i, j, ())
def F57 : Fn := ⟨P57, R57, delSem 124 Y0_2⟩
def E57 : Env := tab.env (fun _ => none) (fun _ => 0)
theorem E57_ok : EnvOK Tryz.prog E57 := envOK_of tabOK _ _ (fun f F h => by cases h)
theorem ok57 : FnOK Tryz.prog 57 F57 := by
 obtain ⟨i0, z, a1, a2, a3, a4, a5⟩ := (E57_ok.ty 124 (Y0_2) (by kernel_rfl)).info
 have b2 : Ty.sz (Y0_2) = 28 := rfl
 have hz : z.cells.size = 28 := by rw [← Array.length_toList, a5, zeroV_len, b2]
 obtain ⟨t24, t3, t4, mixed, z36, hnt⟩ := delF57_t
 refine del_ok Tryz.func57 rfl (by kernel_rfl) ?_
 rw [b2]
 exact del_all (S := 25) (z := z) t24 a1 a4 (by rw [a2, b2]) hz (fun v hv => zeroV_one (Y0_2) v (by rw [← a5]; exact hv)) (by decide) (fun w i v h => delF57_none w h) (fun w g n c i j w' w'' h1 h2 h3 h4 h5 h6 => delF57_some w h1 h2 h3 h4 h5 h6)
def S123 (k : Nat) (a : Int) : Option ((Y0_50 × Unit) × Unit) :=
 some (((0, (a, 0, 0, 0, 0, 0, 0, 0), [], false), ()), ())
def F123 : Fn := ⟨[.val ⟨false, (.int .i64), false⟩], [.val ⟨true, (.pair (.int .i64) (.pair (arrT 8 (.int .i64)) (.pair (.sl 177 (.pair (.int .i64) Y0_16)) .bool))), true⟩], fun k x => S123 k x.1⟩
theorem ok123 : FnOK Tryz.prog 123 F123 := okF [] [] (fun k => .nil) trivial Tryz.func123 rfl
def S75 (k : Nat) (a b c : Int) : Option ((Y0_3 × Unit) × Unit) :=
 (S123 k c).bind fun q0 =>
 (S123 k c).bind fun q1 =>
 some (((a, b, c, 0, q0.1.1, q1.1.1, [], false), ()), ())
def F75 : Fn := ⟨[.val ⟨false, (.int .i64), false⟩, .val ⟨false, (.int .i64), false⟩, .val ⟨false, (.int .i64), false⟩], [.val ⟨true, Y0_2, true⟩], fun k x => S75 k x.1 x.2.1 x.2.2.1⟩
theorem ok75 : FnOK Tryz.prog 75 F75 := okF [(123, F123)] [] (fun k => .nil) ⟨ok123, trivial⟩ Tryz.func75 rfl
section
variable (w : World) {g n c i g2 m c2 : Nat}
theorem insF74_t : Tryz.prog.underlying 25 = some (.slice 124) ∧ Tryz.prog.underlying 3 = some (.int .i64) ∧ Tryz.prog.underlying 4 = some .bool ∧ Tryz.prog.follows .mixedOrders = true ∧ (∀ w, (Go.sizeOf 124).run Tryz.prog w = .ok 28 w) ∧ Tryz.f74.ntmps = 95 := ⟨by kernel_rfl, by kernel_rfl, by kernel_rfl, by kernel_rfl, fun w => by kernel_rfl, rfl⟩
theorem insF74_none {v u : Value} (hv : (∃ A n c, v = .slice A n c ∧ i ≤ n)) (hu : ∃ A c, u = .slice A m c) (hm : m = 0) : Calls Tryz.prog 74 #[v, .int .i64 i, u] w fun e w' => e = .returned v ∧ w' = w := by
 obtain ⟨t24, t3, t4, mixed, z36, hnt⟩ := insF74_t
 have u24 := run_underlying t24; have u3 := run_underlying t3; have u4 := run_underlying t4
 obtain ⟨A, n, c, rfl, hi⟩ := hv
 obtain ⟨A2, c2, rfl⟩ := hu
 have hi0 : (i : Int) ≤ (n : Int) := by omega
 have hz1 : (m : Int) = 0 := by omega
 cases A <;> (go_enter Tryz.func74, hnt; go_wp2 <;> (go_ret; exact ⟨rfl, rfl⟩))
theorem insF74_end {v : Value} {w' : World} {v' : Value} (hv : (∃ A c, v = .slice A n c)) (hm : 0 < m)
  (hr : ∀ ty, (Builtin.append_ #[25, 25] ty #[v, .slice (some ⟨g2, 0, none⟩) m c2]).run Tryz.prog w = .ok v' w') : Calls Tryz.prog 74 #[v, .int .i64 n, .slice (some ⟨g2, 0, none⟩) m c2] w fun e w1 => e = .returned v' ∧ w1 = w' := by
 obtain ⟨t24, t3, t4, mixed, z36, hnt⟩ := insF74_t
 have u24 := run_underlying t24; have u3 := run_underlying t3; have u4 := run_underlying t4
 have hz1 : ¬ ((m : Int) = 0) := by omega
 obtain ⟨A, c, rfl⟩ := hv
 go_enter Tryz.func74, hnt
 go_wp2_with (at_builtin; refine append_list rfl rfl _ _ rfl rfl (hr _) ?_)
 all_goals (go_ret; exact ⟨rfl, rfl⟩)
theorem insF74_shift {v' v'' : Value} {w' w'' : World} (hi : i < n) (hm : 0 < m) (hroom : n + m ≤ c) (hc63 : c ≤ 9223372036854775807)
  (hov : ∀ lb cb, (callFunc 121 #[.slice (some ⟨g2, 0, none⟩) m c2, .slice (some ⟨g, (i + m) * 28, none⟩) lb cb]).run Tryz.prog w = .ok (.value (.bool false)) w)
  (hcp1 : ∀ ty dc sc, (Builtin.copy_ #[25, 25] ty #[.slice (some ⟨g, (i + m) * 28, none⟩) (n + m - (i + m)) dc, .slice (some ⟨g, i * 28, none⟩) (n + m - i) sc]).run Tryz.prog w.drew = .ok v' w')
  (hcp2 : ∀ ty dc, (Builtin.copy_ #[25, 25] ty #[.slice (some ⟨g, i * 28, none⟩) (n + m - i) dc, .slice (some ⟨g2, 0, none⟩) m c2]).run Tryz.prog w' = .ok v'' w'') :
  Calls Tryz.prog 74 #[.slice (some ⟨g, 0, none⟩) n c, .int .i64 i, .slice (some ⟨g2, 0, none⟩) m c2] w fun e w1 => e = .returned (.slice (some ⟨g, 0, none⟩) (n + m) c) ∧ w1 = w'' := by
 obtain ⟨t24, t3, t4, mixed, z36, hnt⟩ := insF74_t
 have u24 := run_underlying t24; have u3 := run_underlying t3; have u4 := run_underlying t4
 have hz1 : ¬ ((m : Int) = 0) := by omega
 have hz2 : ¬ ((i : Int) = (n : Int)) := by omega
 have hw1 : IntKind.i64.wrap ((i : Int) + (m : Int)) = (i : Int) + (m : Int) := by rw [IntKind.wrap_i64]; omega
 have hb1 : (0 : Int) ≤ (i : Int) + (m : Int) := by omega
 have hin : i ≤ n := by omega
 have htn : ((i : Int) + (m : Int)).toNat = i + m := by omega
 have hb2 : ¬ (c = i + m) := by omega
 have hb3 : (i : Int) ≤ (n : Int) + (m : Int) := by omega
 have hb4 : ¬ (c = i) := by omega
 go_enter Tryz.func74, hnt
 go_wp2_with (simp only [hov])
 go_region_law_o (refine copy_step rfl rfl _ _ (by simp [Act.eval, Act.put]) (by simp [Act.eval, Act.put]) (hcp1 _ _ _) ?_)
 go_wp2_with (at_builtin; refine copy_list rfl rfl _ _ rfl rfl (hcp2 _ _) ?_)
 go_ret
 exact ⟨rfl, rfl⟩
theorem insF74_grow {h G : Nat} {v' v'' : Value} {w0 w' w'' : World} (hi : i < n) (hm : 0 < m) (hnc : n ≤ c) (hroom : c < n + m) (hc63 : n + m ≤ 140737488355328) (hG : n + m ≤ G) (hG63 : G ≤ 9223372036854775807)
  (hrz : ∀ ty, (Builtin.append_ #[25, 3] ty #[.slice (some ⟨g, 0, none⟩) i c, .int .i64 ((n : Int) + (m : Int) - (i : Int))]).run Tryz.prog w = .ok (.slice (some ⟨h, 0, none⟩) (n + m) G) w0)
  (hcp1 : ∀ ty dc, (Builtin.copy_ #[25, 25] ty #[.slice (some ⟨h, i * 28, none⟩) (n + m - i) dc, .slice (some ⟨g2, 0, none⟩) m c2]).run Tryz.prog w0 = .ok v' w')
  (hcp2 : ∀ ty dc sc, (Builtin.copy_ #[25, 25] ty #[.slice (some ⟨h, (i + m) * 28, none⟩) (n + m - (i + m)) dc, .slice (some ⟨g, i * 28, none⟩) (n - i) sc]).run Tryz.prog w'.drew = .ok v'' w'') :
  Calls Tryz.prog 74 #[.slice (some ⟨g, 0, none⟩) n c, .int .i64 i, .slice (some ⟨g2, 0, none⟩) m c2] w fun e w1 => e = .returned (.slice (some ⟨h, 0, none⟩) (n + m) G) ∧ w1 = w'' := by
 obtain ⟨t24, t3, t4, mixed, z36, hnt⟩ := insF74_t
 have u24 := run_underlying t24; have u3 := run_underlying t3; have u4 := run_underlying t4
 have hz1 : ¬ ((m : Int) = 0) := by omega
 have hz2 : ¬ ((i : Int) = (n : Int)) := by omega
 have hz3 : (c : Int) < (n : Int) + (m : Int) := by omega
 have hw1 : IntKind.i64.wrap ((i : Int) + (m : Int)) = (i : Int) + (m : Int) := by rw [IntKind.wrap_i64]; omega
 have hb1 : (0 : Int) ≤ (i : Int) + (m : Int) := by omega
 have hin : i ≤ n := by omega
 have htn : ((i : Int) + (m : Int)).toNat = i + m := by omega
 have hGi : ¬ (G = i) := by omega
 have hGim : ¬ (G = i + m) := by omega
 have hci : ¬ (c = i) := by omega
 have hb3 : (i : Int) ≤ (n : Int) := by omega
 go_enter Tryz.func74, hnt
 go_wp2_with (first
  | (at_builtin; refine append_list rfl rfl _ _ rfl rfl (hrz _) ?_)
  | (at_builtin; refine copy_list rfl rfl _ _ rfl rfl (hcp1 _ _) ?_))
 go_region_law_o (refine copy_step rfl rfl _ _ (by simp [Act.eval, Act.put]) (by simp [Act.eval, Act.put]) (hcp2 _ _ _) ?_)
 go_wp2
 go_ret
 exact ⟨rfl, rfl⟩
end
abbrev P74 : List PT := insPs 124 Y0_2
abbrev R74 : List RT := insRs 124 Y0_2
def S74 (k : Nat) (a : List Y0_3) (b : Int) (c : List Y0_3) : Option (((List Y0_3) × Unit) × Unit) := insSem 272 124 Y0_2 k (a, b, c, ())
def F74 : Fn := ⟨P74, R74, insSem 272 124 Y0_2⟩
def E74 : Env := tab.env (fun _ => none) (fun _ => 0)
theorem E74_ok : EnvOK Tryz.prog E74 := envOK_of tabOK _ _ (fun f F h => by cases h)
theorem ok74 : FnOK Tryz.prog 74 F74 := by
 obtain ⟨i0, z, a1, a2, a3, a4, a5⟩ := (E74_ok.ty 124 (Y0_2) (by kernel_rfl)).info
 have b1 : E74.byt 124 = 272 := by kernel_rfl
 have b2 : Ty.sz (Y0_2) = 28 := rfl
 rw [b1] at a3
 have hz : z.cells.size = 28 := by rw [← Array.length_toList, a5, zeroV_len, b2]
 obtain ⟨t24, t3, t4, mixed, z36, hnt⟩ := insF74_t
 refine ins_ok Tryz.func74 rfl (by kernel_rfl) ?_
 rw [b2, ← a3]
 refine ins_all (S := 25) (z := z) t24 t3 a1 a4 (by rw [a2, b2]) hz (by decide) (by rw [a3]; decide) (fun w i m v u h1 h2 h3 => insF74_none w h1 h2 h3) (fun w n g2 m c2 v v' w' h1 h2 h3 => insF74_end w h1 h2 h3) (fun w g n c i g2 m c2 v' v'' w' w'' h1 h2 h3 h4 h5 h6 hne hg hg2 => insF74_shift w h1 h2 h3 h4 (fun lb cb => ?_) h5 h6) (fun w g n c i g2 m c2 h G v' v'' w0 w' w'' h1 h2 h3 h4 h5 h6 h7 h8 h9 h10 => insF74_grow w h1 h2 h3 h4 h5 h6 h7 h8 h9 h10)
 obtain ⟨cur, q1, q2⟩ := hg
 obtain ⟨cur2, q3⟩ := hg2
 rw [run_callFunc_extern Tryz.func121 (by kernel_rfl) (by kernel_rfl) (by kernel_rfl) (e := Extern.SlicesOverlaps.overlaps #[25, 25] #[4]) (by kernel_rfl), Lib.run_overlaps_apart w 25 4 124 t24 28 z36 ⟨g2, 0, none⟩ ⟨g, (i + m) * 28, none⟩ m c2 lb cb hne 124 124 cur2.size cur.size (by simp [World.shape?, q3]) (by simp [World.shape?, q1]) q2 (Kd.frozen_row q3 _) (Kd.frozen_row q3 _)]
 rfl
abbrev c33_J17 : Cut := ⟨[1, 2, 3, 6, 9, 10], [cI, cI, .box 36 [cI, cI, .own 43 Y0_1, .own 117 Y0_35, .cell .bool, .cell .bool, .cell .bool, .own 124 Y0_2, .own 3 (.int .i64), .own 4 .bool, .own 97 Y0_5, .own 3 (.int .i64), .own 4 .bool], .box 36 [cI, cI, .nil, .nil, .cell .bool, .cell .bool, .cell .bool, .nil, .nil, .nil, .nil, .nil, .nil], .own 58 Y0_65, cI], [], 98, []⟩
def j33_17 (k : Nat) (a b c e : Int) (f : List Y0_0) (h : List (PN Int 5)) (i l m : Bool) (n : List Y0_3) (o : List Int) (p : List Bool) (s : List Y0_4) (t : List Int) (u : List Bool) (v w : Int) (y z A : Bool) (B : List (PN Int 6)) (C : Int) : Option ((Y0_8 × (List (PN Int 6)) × Int × Unit) × Unit) :=
 (S75 k a c b).bind fun q4 =>
 (S74 k n C ([q4.1.1] : List Y0_3)).bind fun q5 =>
 ap B ([(c, 1, a, 0, b, 0)] : List (PN Int 6)) 48 fun r6 =>
 some (((c, e, f, h, i, l, m, q5.1.1, ((o, p), s), t, u), r6, 0, ()), ())
abbrev c33_J10 : Cut := ⟨[1, 2, 3, 6], [cI, cI, .box 36 [cI, cI, .own 43 Y0_1, .own 117 Y0_35, .cell .bool, .cell .bool, .cell .bool, .own 124 Y0_2, .own 3 (.int .i64), .own 4 .bool, .own 97 Y0_5, .own 3 (.int .i64), .own 4 .bool], .box 36 [cI, cI, .nil, .nil, .cell .bool, .cell .bool, .cell .bool, .nil, .nil, .nil, .nil, .nil, .nil]], [], 98, []⟩
def j33_10 (k : Nat) (a b c e : Int) (f : List Y0_0) (h : List (PN Int 5)) (i l m : Bool) (n : List Y0_3) (o : List Int) (p : List Bool) (s : List Y0_4) (t : List Int) (u : List Bool) (v w : Int) (y z A : Bool) : Option ((Y0_8 × (List (PN Int 6)) × Int × Unit) × Unit) :=
 (S73 k (c, e, f, h, i, l, m, n, ((o, p), s), t, u) a).bind fun q1 =>
 (bif q1.1.2.1 then
  ix n q1.1.1 <|
  (bif (rd n q1.1.1 (0, 0, 0, 0, (0, prep (α := Int) 8 0, [], false), (0, prep (α := Int) 8 0, [], false), [], false)).2.2.2.1 != 2 then
   some (((c, e, f, h, i, l, m, n, ((o, p), s), t, u), [], 5, ()), ())
  else
   ap ([] : List (PN Int 6)) ([(c, 13, a, 0, 0, 0)] : List (PN Int 6)) 48 fun r2 =>
   (S57 k n q1.1.1 (IntKind.i64.wrap (q1.1.1 + 1))).bind fun q3 =>
   j33_17 k a b c e f h i l m q3.1.1 o p s t u v w y z A r2 q1.1.1)
 else
  j33_17 k a b c e f h i l m n o p s t u v w y z A ([] : List (PN Int 6)) q1.1.1)
def S33 (k : Nat) (a : Y0_20) (b c : Int) : Option ((Y0_8 × (List (PN Int 6)) × Int × Unit) × Unit) :=
 (S24 k a).bind fun q0 =>
 (bif !q0.1.1.2.2.2.2.1 then
  some ((q0.1.1, [], 8, ()), ())
 else
  (bif q0.1.1.2.2.2.2.2.1 then
   some ((q0.1.1, [], 17, ()), ())
  else
   (bif decide (b < 0) then
    some ((q0.1.1, [], 3, ()), ())
   else
    (bif decide (b ≥ (q0.1.1.2.2.1.length : Int)) then
     some ((q0.1.1, [], 3, ()), ())
    else
     (bif decide (b < (q0.1.1.2.2.2.2.2.2.2.2.2.2.length : Int)) then
      ix q0.1.1.2.2.2.2.2.2.2.2.2.2 b <|
      (bif rd q0.1.1.2.2.2.2.2.2.2.2.2.2 b false then
       some ((q0.1.1, [], 6, ()), ())
      else
       j33_10 k b c q0.1.1.1 q0.1.1.2.1 q0.1.1.2.2.1 q0.1.1.2.2.2.1 q0.1.1.2.2.2.2.1 q0.1.1.2.2.2.2.2.1 q0.1.1.2.2.2.2.2.2.1 q0.1.1.2.2.2.2.2.2.2.1 q0.1.1.2.2.2.2.2.2.2.2.1.1.1 q0.1.1.2.2.2.2.2.2.2.2.1.1.2 q0.1.1.2.2.2.2.2.2.2.2.1.2 q0.1.1.2.2.2.2.2.2.2.2.2.1 q0.1.1.2.2.2.2.2.2.2.2.2.2 0 0 false false false)
     else
      j33_10 k b c q0.1.1.1 q0.1.1.2.1 q0.1.1.2.2.1 q0.1.1.2.2.2.1 q0.1.1.2.2.2.2.1 q0.1.1.2.2.2.2.2.1 q0.1.1.2.2.2.2.2.2.1 q0.1.1.2.2.2.2.2.2.2.1 q0.1.1.2.2.2.2.2.2.2.2.1.1.1 q0.1.1.2.2.2.2.2.2.2.2.1.1.2 q0.1.1.2.2.2.2.2.2.2.2.1.2 q0.1.1.2.2.2.2.2.2.2.2.2.1 q0.1.1.2.2.2.2.2.2.2.2.2.2 0 0 false false false)))))
def F33 : Fn := ⟨[.val ⟨true, Y0_10, false⟩, .val ⟨false, (.int .i64), false⟩, .val ⟨false, (.int .i64), false⟩], [.val ⟨true, Y0_10, true⟩, .val ⟨false, (.sl 58 Y0_65), true⟩, .val ⟨false, (.int .i64), true⟩], fun k x => S33 k x.1 x.2.1 x.2.2.1⟩
theorem ok33 : FnOK Tryz.prog 33 F33 := okF [(24, F24), (57, F57), (73, F73), (74, F74), (75, F75)] [(9, 2)] (fun k => (.join 17 c33_J17 (fun d => j33_17 k d.2.1 d.2.2.1 d.2.2.2.1.1 d.2.2.2.1.2.1 d.2.2.2.1.2.2.1 d.2.2.2.1.2.2.2.1 d.2.2.2.1.2.2.2.2.1 d.2.2.2.1.2.2.2.2.2.1 d.2.2.2.1.2.2.2.2.2.2.1 d.2.2.2.1.2.2.2.2.2.2.2.1 d.2.2.2.1.2.2.2.2.2.2.2.2.1 d.2.2.2.1.2.2.2.2.2.2.2.2.2.1 d.2.2.2.1.2.2.2.2.2.2.2.2.2.2.1 d.2.2.2.1.2.2.2.2.2.2.2.2.2.2.2.1 d.2.2.2.1.2.2.2.2.2.2.2.2.2.2.2.2.1 d.2.2.2.2.1.1 d.2.2.2.2.1.2.1 d.2.2.2.2.1.2.2.2.2.1 d.2.2.2.2.1.2.2.2.2.2.1 d.2.2.2.2.1.2.2.2.2.2.2.1 d.2.2.2.2.2.1 d.2.2.2.2.2.2.1) (.join 10 c33_J10 (fun d => j33_10 k d.2.1 d.2.2.1 d.2.2.2.1.1 d.2.2.2.1.2.1 d.2.2.2.1.2.2.1 d.2.2.2.1.2.2.2.1 d.2.2.2.1.2.2.2.2.1 d.2.2.2.1.2.2.2.2.2.1 d.2.2.2.1.2.2.2.2.2.2.1 d.2.2.2.1.2.2.2.2.2.2.2.1 d.2.2.2.1.2.2.2.2.2.2.2.2.1 d.2.2.2.1.2.2.2.2.2.2.2.2.2.1 d.2.2.2.1.2.2.2.2.2.2.2.2.2.2.1 d.2.2.2.1.2.2.2.2.2.2.2.2.2.2.2.1 d.2.2.2.1.2.2.2.2.2.2.2.2.2.2.2.2.1 d.2.2.2.2.1.1 d.2.2.2.2.1.2.1 d.2.2.2.2.1.2.2.2.2.1 d.2.2.2.2.1.2.2.2.2.2.1 d.2.2.2.2.1.2.2.2.2.2.2.1) .nil))) ⟨ok24, ok57, ok73, ok74, ok75, trivial⟩ Tryz.func33 rfl
def S23 (k : Nat) (a : Y0_20) : Option Y0_58 :=
 (S33 k a (-1) 0).bind fun q0 =>
 some ((q0.1.1, ()), ())
def F23 : Fn := ⟨[.val ⟨true, Y0_10, false⟩], [.val ⟨true, Y0_10, true⟩], fun k x => S23 k x.1⟩
theorem ok23 : FnOK Tryz.prog 23 F23 := okF [(33, F33)] [] (fun k => .nil) ⟨ok33, trivial⟩ Tryz.func23 rfl
def S112 (k : Nat) (a : Y0_71) : Option ((Y0_26 × Unit) × Unit) :=
 (S89 k a.1).bind fun q0 =>
 (S111 k a.2).bind fun q1 =>
 some (((q0.1.1, q1.1.1), ()), ())
def F112 : Fn := ⟨[.val ⟨true, Y0_29, false⟩], [.val ⟨true, Y0_29, true⟩], fun k x => S112 k x.1⟩
theorem ok112 : FnOK Tryz.prog 112 F112 := okF [(89, F89), (111, F111)] [] (fun k => .nil) ⟨ok89, ok111, trivial⟩ Tryz.func112 rfl
def S114 (k : Nat) (a : Y0_71) : Option Y0_12 :=
 some ((mn (a.1.length : Int) (a.2.length : Int), ()), ())
def F114 : Fn := ⟨[.val ⟨true, Y0_29, false⟩], [.val ⟨false, (.int .i64), true⟩], fun k x => S114 k x.1⟩
theorem ok114 : FnOK Tryz.prog 114 F114 := okF [] [] (fun k => .nil) trivial Tryz.func114 rfl
abbrev c113_L2 : Cut := ⟨[0, 1, 7, 8], [.cell Y0_57, .cell .bool, cI, cI], [], 19, []⟩
def l113_2 (k : Nat) (g2 : (List Bool) → Bool → Int → Int → Option Y0_12) (a : List Bool) (b : Bool) (c e : Int) : Option Y0_12 :=
 (bif decide (e < c) then
  ix a e <|
  (bif b == (rd a e false) then
   some ((e, ()), ())
  else
   g2 a b c (IntKind.i64.wrap (e + 1)))
 else
  some (((-1), ()), ()))
def b113_2 (k : Nat) (g : ((Unit) × (List Bool) × Bool × Int × Int × Unit) → Option Y0_12) (d : (Unit) × (List Bool) × Bool × Int × Int × Unit) : Option Y0_12 := l113_2 k (fun a b c e => g ((), a, b, c, e, ())) d.2.1 d.2.2.1 d.2.2.2.1 d.2.2.2.2.1
def L113_2 (k a : Nat) (b : List Bool) (c : Bool) (e f : Int) : Option Y0_12 := iter (R := Y0_53 × Unit) c113_L2 (b113_2 k) a ((), b, c, e, f, ())
theorem L113_2_s (k a b c e f) : L113_2 k (a + 1) b c e f = l113_2 k (L113_2 k a) b c e f := iter_succ _ _ _ _
def S113 (k : Nat) (a : List Bool) (b : Bool) : Option Y0_12 :=
 L113_2 k k a b (a.length : Int) 0
def F113 : Fn := ⟨[.val ⟨false, Y0_57, false⟩, .val ⟨false, .bool, false⟩], [.val ⟨false, (.int .i64), true⟩], fun k x => S113 k x.1 x.2.1⟩
theorem ok113 : FnOK Tryz.prog 113 F113 := okF [] [] (fun k => (.loop 2 c113_L2 (b113_2 k) (fun g => .nil) .nil)) trivial Tryz.func113 rfl
def S65 (k : Nat) (a : Y0_71) : Option ((Y0_26 × (Int × Int) × Bool × Unit) × Unit) :=
 (S112 k a).bind fun q0 =>
 (S114 k q0.1.1).bind fun q1 =>
 sx q0.1.1.2 0 q1.1.1 <|
 (S113 k (sub q0.1.1.2 0 q1.1.1) false).bind fun q2 =>
 (bif decide (q2.1.1 < 0) then
  some ((q0.1.1, (0, 0), false, ()), ())
 else
  ix q0.1.1.1 q2.1.1 <|
  ix q0.1.1.1 q2.1.1 <|
  ix q0.1.1.2 q2.1.1 <|
  ix (upd q0.1.1.1 q2.1.1 (IntKind.i64.wrap ((rd q0.1.1.1 q2.1.1 0) + 1))) q2.1.1 <|
  some (((upd q0.1.1.1 q2.1.1 (IntKind.i64.wrap ((rd q0.1.1.1 q2.1.1 0) + 1)), upd q0.1.1.2 q2.1.1 true), (q2.1.1, rd (upd q0.1.1.1 q2.1.1 (IntKind.i64.wrap ((rd q0.1.1.1 q2.1.1 0) + 1))) q2.1.1 0), true, ()), ()))
def F65 : Fn := ⟨[.val ⟨true, Y0_29, false⟩], [.val ⟨true, Y0_29, true⟩, .val ⟨true, Y0_16, true⟩, .val ⟨false, .bool, true⟩], fun k x => S65 k x.1⟩
theorem ok65 : FnOK Tryz.prog 65 F65 := okF [(112, F112), (113, F113), (114, F114)] [] (fun k => .nil) ⟨ok112, ok113, ok114, trivial⟩ Tryz.func65 rfl
def S67 (k : Nat) (a : Int) (b : Int × Int) : Option ((Y0_4 × Unit) × Unit) :=
 (bif a == 1 then
  some (((a, b, (8, 0), ([], []), (0, []), 0), ()), ())
 else
  some (((a, b, (0, 0), ([], []), (0, []), 0), ()), ()))
def F67 : Fn := ⟨[.val ⟨false, (.int .i64), false⟩, .val ⟨true, Y0_16, false⟩], [.val ⟨true, Y0_5, true⟩], fun k x => S67 k x.1 x.2.1⟩
theorem ok67 : FnOK Tryz.prog 67 F67 := okF [] [] (fun k => .nil) trivial Tryz.func67 rfl
abbrev c31_L4 : Cut := ⟨[1, 4, 5, 7, 8, 9, 20, 21, 22], [cI, .box 32 [.nil, .nil, .nil], .box 45 [cI, cI], .mp 81 false (.int .i64) false (.int .i64), .box 32 [.own 3 (.int .i64), .own 4 .bool, .own 97 Y0_5], cI, .cell (.sl 97 Y0_5), cI, cI], [], 72, []⟩
def l31_4 (k : Nat) (g4 : Int → Int → Int → Y0_14 → (List Int) → (List Bool) → (List Y0_4) → Int → (List Y0_4) → Int → Int → Option Y0_40) (a b c : Int) (e : Y0_31) (f : List Int) (h : List Bool) (i : List Y0_4) (l : Int) (m : List Y0_4) (n o : Int) : Option Y0_40 :=
 (bif decide (o < n) then
  ix m o <|
  (bif (rd m o (0, (0, 0), (0, 0), ([], []), (0, []), 0)).1 == a then
   g4 a b c e f h i (IntKind.i64.wrap (l + 1)) m n (IntKind.i64.wrap (o + 1))
  else
   g4 a b c e f h i l m n (IntKind.i64.wrap (o + 1)))
 else
  (S65 k (f, h)).bind fun q1 =>
  (bif decide (l ≥ (mget (.int .i64) (.int .i64) a e 0)) then
   some ((((f, h), i), (0, 0), false, ()), ())
  else
   (bif !q1.1.2.2.1 then
    some ((((f, h), i), (0, 0), false, ()), ())
   else
    (bif decide (q1.1.2.1.1 ≥ (i.length : Int)) then
     some ((((f, h), i), (0, 0), false, ()), ())
    else
     (S67 k a q1.1.2.1).bind fun q2 =>
     (S66 k q2.1.1).bind fun q3 =>
     ix i q1.1.2.1.1 <|
     some (((q1.1.1, upd i q1.1.2.1.1 q3.1.1), q1.1.2.1, true, ()), ())))))
def b31_4 (k : Nat) (g : ((Unit) × Int × (Unit × Unit × Unit × Unit) × (Int × Int × Unit) × Y0_14 × Y0_61 × Int × (List Y0_4) × Int × Int × Unit) → Option Y0_40) (d : (Unit) × Int × (Unit × Unit × Unit × Unit) × (Int × Int × Unit) × Y0_14 × Y0_61 × Int × (List Y0_4) × Int × Int × Unit) : Option Y0_40 := l31_4 k (fun a b c e f h i l m n o => g ((), a, ((), (), (), ()), (b, c, ()), e, (f, h, i, ()), l, m, n, o, ())) d.2.1 d.2.2.2.1.1 d.2.2.2.1.2.1 d.2.2.2.2.1 d.2.2.2.2.2.1.1 d.2.2.2.2.2.1.2.1 d.2.2.2.2.2.1.2.2.1 d.2.2.2.2.2.2.1 d.2.2.2.2.2.2.2.1 d.2.2.2.2.2.2.2.2.1 d.2.2.2.2.2.2.2.2.2.1
def L31_4 (k a : Nat) (b c e : Int) (f : Y0_31) (h : List Int) (i : List Bool) (l : List Y0_4) (m : Int) (n : List Y0_4) (o p : Int) : Option Y0_40 := iter (R := ((Y0_26 × List Y0_4) × (Int × Int) × Bool × Unit) × Unit) c31_L4 (b31_4 k) a ((), b, ((), (), (), ()), (c, e, ()), f, (h, i, l, ()), m, n, o, p, ())
theorem L31_4_s (k a b c e f h i l m n o p) : L31_4 k (a + 1) b c e f h i l m n o p = l31_4 k (L31_4 k a) b c e f h i l m n o p := iter_succ _ _ _ _
def S31 (k : Nat) (a : Y0_26 × List Y0_4) (b : Int) : Option Y0_40 :=
 (S64 k a).bind fun q0 =>
 L31_4 k k b 0 0 (updD (.int .i64) (.int .i64) 3 4 (updD (.int .i64) (.int .i64) 2 4 (updD (.int .i64) (.int .i64) 1 4 ([] : List (Int × Int))))) q0.1.1.1.1 q0.1.1.1.2 q0.1.1.2 0 a.2 (a.2.length : Int) 0
def F31 : Fn := ⟨[.val ⟨true, Y0_55, false⟩, .val ⟨false, (.int .i64), false⟩], [.val ⟨true, Y0_55, true⟩, .val ⟨true, Y0_16, true⟩, .val ⟨false, .bool, true⟩], fun k x => S31 k x.1 x.2.1⟩
theorem ok31 : FnOK Tryz.prog 31 F31 := okF [(64, F64), (65, F65), (66, F66), (67, F67)] [] (fun k => (.loop 4 c31_L4 (b31_4 k) (fun g => .nil) .nil)) ⟨ok64, ok65, ok66, ok67, trivial⟩ Tryz.func31 rfl
abbrev c14_J3 : Cut := ⟨[0, 2], [.pin false 0, .mp 81 false (.int .i64) false (.int .i64)], [.mbox 71 [cI, cI, .cell Y0_39, .cell (.sl 117 Y0_35), .cell .bool, .cell .bool, .cell .bool, .cell (.sl 124 Y0_2), .cell Y0_18, .cell Y0_57, .cell (.sl 97 Y0_5), .cell Y0_18, .cell Y0_57, cI, cI, cI, cI, .cell Y0_25, .cell Y0_25, .cell Y0_25, cI, cI, cI, cI, .cell (.int .u32), .own 58 Y0_65, cI, cI, cI, cI]], 58, []⟩
def j14_3 (k : Nat) (a b : Int) (c : List Y0_0) (e : List (PN Int 5)) (f h i : Bool) (l : List Y0_3) (m : List Int) (n : List Bool) (o : List Y0_4) (p : List Int) (s : List Bool) (t u v w : Int) (y z A : List Y0_7) (B C D G H : Int) (I : List (PN Int 6)) (J K M N : Int) (O : Y0_31) : Option Y0_67 :=
 (S31 k ((m, n), o) (mget (.int .i64) (.int .i64) t O 0)).bind fun q0 =>
 (bif !q0.1.2.2.1 then
  some ((), (a, b, c, e, f, h, i, l, m, n, o, p, s, t, u, v, w, y, z, A, B, C, D, G, H, I, 4, K, M, N, ()), ())
 else
  some ((), (a, b, c, e, f, h, i, l, q0.1.1.1.1, q0.1.1.1.2, q0.1.1.2, p, s, t, u, v, w, y, z, A, B, C, D, G, H, I, J, q0.1.2.1.1, q0.1.2.1.2, N, ()), ()))
def S14 (k : Nat) (a b : Int) (c : List Y0_0) (e : List (PN Int 5)) (f h i : Bool) (l : List Y0_3) (m : List Int) (n : List Bool) (o : List Y0_4) (p : List Int) (s : List Bool) (t u v w : Int) (y z A : List Y0_7) (B C D G H : Int) (I : List (PN Int 6)) (J K M N : Int) : Option Y0_67 :=
 (bif t == 2 then
  (bif f then
   some ((), (a, b, c, e, f, h, i, l, m, n, o, p, s, t, u, v, w, y, z, A, B, C, D, G, H, I, 7, K, M, N, ()), ())
  else
   j14_3 k a b c e f h i l m n o p s t u v w y z A B C D G H I J K M N (updD (.int .i64) (.int .i64) 4 3 (updD (.int .i64) (.int .i64) 3 2 (updD (.int .i64) (.int .i64) 2 1 ([] : List (Int × Int))))))
 else
  j14_3 k a b c e f h i l m n o p s t u v w y z A B C D G H I J K M N (updD (.int .i64) (.int .i64) 4 3 (updD (.int .i64) (.int .i64) 3 2 (updD (.int .i64) (.int .i64) 2 1 ([] : List (Int × Int))))))
def F14 : Fn := ⟨[.mbox 71 [cI, cI, .cell Y0_39, .cell (.sl 117 Y0_35), .cell .bool, .cell .bool, .cell .bool, .cell (.sl 124 Y0_2), .cell Y0_18, .cell Y0_57, .cell (.sl 97 Y0_5), .cell Y0_18, .cell Y0_57, cI, cI, cI, cI, .cell Y0_25, .cell Y0_25, .cell Y0_25, cI, cI, cI, cI, .cell (.int .u32), .own 58 Y0_65, cI, cI, cI, cI]], [], fun k x => S14 k x.1.1 x.1.2.1 x.1.2.2.1 x.1.2.2.2.1 x.1.2.2.2.2.1 x.1.2.2.2.2.2.1 x.1.2.2.2.2.2.2.1 x.1.2.2.2.2.2.2.2.1 x.1.2.2.2.2.2.2.2.2.1 x.1.2.2.2.2.2.2.2.2.2.1 x.1.2.2.2.2.2.2.2.2.2.2.1 x.1.2.2.2.2.2.2.2.2.2.2.2.1 x.1.2.2.2.2.2.2.2.2.2.2.2.2.1 x.1.2.2.2.2.2.2.2.2.2.2.2.2.2.1 x.1.2.2.2.2.2.2.2.2.2.2.2.2.2.2.1 x.1.2.2.2.2.2.2.2.2.2.2.2.2.2.2.2.1 x.1.2.2.2.2.2.2.2.2.2.2.2.2.2.2.2.2.1 x.1.2.2.2.2.2.2.2.2.2.2.2.2.2.2.2.2.2.1 x.1.2.2.2.2.2.2.2.2.2.2.2.2.2.2.2.2.2.2.1 x.1.2.2.2.2.2.2.2.2.2.2.2.2.2.2.2.2.2.2.2.1 x.1.2.2.2.2.2.2.2.2.2.2.2.2.2.2.2.2.2.2.2.2.1 x.1.2.2.2.2.2.2.2.2.2.2.2.2.2.2.2.2.2.2.2.2.2.1 x.1.2.2.2.2.2.2.2.2.2.2.2.2.2.2.2.2.2.2.2.2.2.2.1 x.1.2.2.2.2.2.2.2.2.2.2.2.2.2.2.2.2.2.2.2.2.2.2.2.1 x.1.2.2.2.2.2.2.2.2.2.2.2.2.2.2.2.2.2.2.2.2.2.2.2.2.1 x.1.2.2.2.2.2.2.2.2.2.2.2.2.2.2.2.2.2.2.2.2.2.2.2.2.2.1 x.1.2.2.2.2.2.2.2.2.2.2.2.2.2.2.2.2.2.2.2.2.2.2.2.2.2.2.1 x.1.2.2.2.2.2.2.2.2.2.2.2.2.2.2.2.2.2.2.2.2.2.2.2.2.2.2.2.1 x.1.2.2.2.2.2.2.2.2.2.2.2.2.2.2.2.2.2.2.2.2.2.2.2.2.2.2.2.2.1 x.1.2.2.2.2.2.2.2.2.2.2.2.2.2.2.2.2.2.2.2.2.2.2.2.2.2.2.2.2.2.1⟩
theorem ok14 : FnOK Tryz.prog 14 F14 := okF [(31, F31)] [] (fun k => (.join 3 c14_J3 (fun d => j14_3 k d.1.1.1 d.1.1.2.1 d.1.1.2.2.1 d.1.1.2.2.2.1 d.1.1.2.2.2.2.1 d.1.1.2.2.2.2.2.1 d.1.1.2.2.2.2.2.2.1 d.1.1.2.2.2.2.2.2.2.1 d.1.1.2.2.2.2.2.2.2.2.1 d.1.1.2.2.2.2.2.2.2.2.2.1 d.1.1.2.2.2.2.2.2.2.2.2.2.1 d.1.1.2.2.2.2.2.2.2.2.2.2.2.1 d.1.1.2.2.2.2.2.2.2.2.2.2.2.2.1 d.1.1.2.2.2.2.2.2.2.2.2.2.2.2.2.1 d.1.1.2.2.2.2.2.2.2.2.2.2.2.2.2.2.1 d.1.1.2.2.2.2.2.2.2.2.2.2.2.2.2.2.2.1 d.1.1.2.2.2.2.2.2.2.2.2.2.2.2.2.2.2.2.1 d.1.1.2.2.2.2.2.2.2.2.2.2.2.2.2.2.2.2.2.1 d.1.1.2.2.2.2.2.2.2.2.2.2.2.2.2.2.2.2.2.2.1 d.1.1.2.2.2.2.2.2.2.2.2.2.2.2.2.2.2.2.2.2.2.1 d.1.1.2.2.2.2.2.2.2.2.2.2.2.2.2.2.2.2.2.2.2.2.1 d.1.1.2.2.2.2.2.2.2.2.2.2.2.2.2.2.2.2.2.2.2.2.2.1 d.1.1.2.2.2.2.2.2.2.2.2.2.2.2.2.2.2.2.2.2.2.2.2.2.1 d.1.1.2.2.2.2.2.2.2.2.2.2.2.2.2.2.2.2.2.2.2.2.2.2.2.1 d.1.1.2.2.2.2.2.2.2.2.2.2.2.2.2.2.2.2.2.2.2.2.2.2.2.2.1 d.1.1.2.2.2.2.2.2.2.2.2.2.2.2.2.2.2.2.2.2.2.2.2.2.2.2.2.1 d.1.1.2.2.2.2.2.2.2.2.2.2.2.2.2.2.2.2.2.2.2.2.2.2.2.2.2.2.1 d.1.1.2.2.2.2.2.2.2.2.2.2.2.2.2.2.2.2.2.2.2.2.2.2.2.2.2.2.2.1 d.1.1.2.2.2.2.2.2.2.2.2.2.2.2.2.2.2.2.2.2.2.2.2.2.2.2.2.2.2.2.1 d.1.1.2.2.2.2.2.2.2.2.2.2.2.2.2.2.2.2.2.2.2.2.2.2.2.2.2.2.2.2.2.1 d.2.2.1) .nil)) ⟨ok31, trivial⟩ Tryz.func14 rfl
abbrev c52_L2 : Cut := ⟨[2, 6, 7, 8], [.own 3 (.int .i64), .cell (.sl 97 Y0_5), cI, cI], [], 22, []⟩
def l52_2 (k : Nat) (g2 : (List Int) → (List Y0_4) → Int → Int → Option Y0_19) (a : List Int) (b : List Y0_4) (c e : Int) : Option Y0_19 :=
 (bif decide (e < c) then
  ix b e <|
  (bif (rd b e (0, (0, 0), (0, 0), ([], []), (0, []), 0)).1 == 1 then
   ap a ([e] : List Int) 8 fun r0 =>
   g2 r0 b c (IntKind.i64.wrap (e + 1))
  else
   g2 a b c (IntKind.i64.wrap (e + 1)))
 else
  some ((a, ()), ()))
def b52_2 (k : Nat) (g : ((Unit) × (List Int) × (List Y0_4) × Int × Int × Unit) → Option Y0_19) (d : (Unit) × (List Int) × (List Y0_4) × Int × Int × Unit) : Option Y0_19 := l52_2 k (fun a b c e => g ((), a, b, c, e, ())) d.2.1 d.2.2.1 d.2.2.2.1 d.2.2.2.2.1
def L52_2 (k a : Nat) (b : List Int) (c : List Y0_4) (e f : Int) : Option Y0_19 := iter (R := ((List Int) × Unit) × Unit) c52_L2 (b52_2 k) a ((), b, c, e, f, ())
theorem L52_2_s (k a b c e f) : L52_2 k (a + 1) b c e f = l52_2 k (L52_2 k a) b c e f := iter_succ _ _ _ _
def S52 (k : Nat) (a : Y0_26 × List Y0_4) : Option Y0_19 :=
 L52_2 k k ([] : List Int) a.2 (a.2.length : Int) 0
def F52 : Fn := ⟨[.val ⟨true, Y0_55, false⟩], [.val ⟨false, Y0_18, true⟩], fun k x => S52 k x.1⟩
theorem ok52 : FnOK Tryz.prog 52 F52 := okF [] [(2, 2)] (fun k => (.loop 2 c52_L2 (b52_2 k) (fun g => .nil) .nil)) trivial Tryz.func52 rfl
abbrev c54_L2 : Cut := ⟨[1, 2, 7, 8, 9], [.box 36 [cI, cI, .cell Y0_39, .cell (.sl 117 Y0_35), .cell .bool, .cell .bool, .cell .bool, .cell (.sl 124 Y0_2), .cell Y0_18, .cell Y0_57, .cell (.sl 97 Y0_5), .cell Y0_18, .cell Y0_57], .own 89 Y0_16, .own 3 (.int .i64), cI, cI], [], 25, []⟩
def l54_2 (k : Nat) (g2 : Int → Int → (List Y0_0) → Y0_68 → Bool → Bool → Bool → (List Y0_3) → (List Int) → (List Bool) → (List Y0_4) → (List Int) → (List Bool) → Y0_14 → (List Int) → Int → Int → Option Y0_32) (a b : Int) (c : List Y0_0) (e : List (PN Int 5)) (f h i : Bool) (l : List Y0_3) (m : List Int) (n : List Bool) (o : List Y0_4) (p : List Int) (s : List Bool) (t : Y0_31) (u : List Int) (v w : Int) : Option Y0_32 :=
 (bif decide (w < v) then
  ix u w <|
  ix o (rd u w 0) <|
  ap t ([(rd o (rd u w 0) (0, (0, 0), (0, 0), ([], []), (0, []), 0)).2.2.1] : List (Int × Int)) 16 fun r1 =>
  g2 a b c e f h i l m n o p s r1 u v (IntKind.i64.wrap (w + 1))
 else
  some ((t, ()), ()))
def b54_2 (k : Nat) (g : ((Unit) × Y0_9 × Y0_14 × (List Int) × Int × Int × Unit) → Option Y0_32) (d : (Unit) × Y0_9 × Y0_14 × (List Int) × Int × Int × Unit) : Option Y0_32 := l54_2 k (fun a b c e f h i l m n o p s t u v w => g ((), (a, b, c, e, f, h, i, l, m, n, o, p, s, ()), t, u, v, w, ())) d.2.1.1 d.2.1.2.1 d.2.1.2.2.1 d.2.1.2.2.2.1 d.2.1.2.2.2.2.1 d.2.1.2.2.2.2.2.1 d.2.1.2.2.2.2.2.2.1 d.2.1.2.2.2.2.2.2.2.1 d.2.1.2.2.2.2.2.2.2.2.1 d.2.1.2.2.2.2.2.2.2.2.2.1 d.2.1.2.2.2.2.2.2.2.2.2.2.1 d.2.1.2.2.2.2.2.2.2.2.2.2.2.1 d.2.1.2.2.2.2.2.2.2.2.2.2.2.2.1 d.2.2.1 d.2.2.2.1 d.2.2.2.2.1 d.2.2.2.2.2.1
def L54_2 (k a : Nat) (b c : Int) (e : List Y0_0) (f : List (PN Int 5)) (h i l : Bool) (m : List Y0_3) (n : List Int) (o : List Bool) (p : List Y0_4) (s : List Int) (t : List Bool) (u : Y0_31) (v : List Int) (w y : Int) : Option Y0_32 := iter (R := (Y0_14 × Unit) × Unit) c54_L2 (b54_2 k) a ((), (b, c, e, f, h, i, l, m, n, o, p, s, t, ()), u, v, w, y, ())
theorem L54_2_s (k a b c e f h i l m n o p s t u v w y) : L54_2 k (a + 1) b c e f h i l m n o p s t u v w y = l54_2 k (L54_2 k a) b c e f h i l m n o p s t u v w y := iter_succ _ _ _ _
def S54 (k : Nat) (a : Y0_20) : Option Y0_32 :=
 (S52 k a.2.2.2.2.2.2.2.2.1).bind fun q0 =>
 L54_2 k k a.1 a.2.1 a.2.2.1 a.2.2.2.1 a.2.2.2.2.1 a.2.2.2.2.2.1 a.2.2.2.2.2.2.1 a.2.2.2.2.2.2.2.1 a.2.2.2.2.2.2.2.2.1.1.1 a.2.2.2.2.2.2.2.2.1.1.2 a.2.2.2.2.2.2.2.2.1.2 a.2.2.2.2.2.2.2.2.2.1 a.2.2.2.2.2.2.2.2.2.2 ([] : List (Int × Int)) q0.1.1 (q0.1.1.length : Int) 0
def F54 : Fn := ⟨[.val ⟨true, Y0_10, false⟩], [.val ⟨false, (.sl 89 Y0_16), true⟩], fun k x => S54 k x.1⟩
theorem ok54 : FnOK Tryz.prog 54 F54 := okF [(52, F52)] [(2, 2)] (fun k => (.loop 2 c54_L2 (b54_2 k) (fun g => .nil) .nil)) ⟨ok52, trivial⟩ Tryz.func54 rfl
def S70 (k : Nat) (a : Int × Int × Int × Int) (b : Y0_31) : Option Y0_15 :=
 (bif a.1 == 9 then
  some ((decide (a.2.1 ≥ (b.length : Int)), ()), ())
 else
  some ((false, ()), ()))
def F70 : Fn := ⟨[.val ⟨true, Y0_6, false⟩, .pv (.ref (.sl 89 Y0_16))], [.val ⟨false, .bool, true⟩], fun k x => S70 k x.1 x.2.1⟩
theorem ok70 : FnOK Tryz.prog 70 F70 := okF [] [] (fun k => .nil) trivial Tryz.func70 rfl
abbrev c115d_L2 : Cut := ⟨[0, 1, 7, 8], [.cell Y0_25, .clo 70 [.ref (.sl 89 Y0_16)], cI, cI], [], 19, []⟩
def l115d_2 (k : Nat) (g2 : (List Y0_7) → Y0_14 → Int → Int → Option Y0_12) (a : List Y0_7) (b : Y0_31) (c e : Int) : Option Y0_12 :=
 (bif decide (e < c) then
  ix a e <|
  (S70 k (rd a e (0, 0, 0, 0)) b).bind fun q0 =>
  (bif q0.1.1 then
   some ((e, ()), ())
  else
   g2 a b c (IntKind.i64.wrap (e + 1)))
 else
  some (((-1), ()), ()))
def b115d_2 (k : Nat) (g : ((Unit) × (List Y0_7) × (Y0_14 × Unit) × Int × Int × Unit) → Option Y0_12) (d : (Unit) × (List Y0_7) × (Y0_14 × Unit) × Int × Int × Unit) : Option Y0_12 := l115d_2 k (fun a b c e => g ((), a, (b, ()), c, e, ())) d.2.1 d.2.2.1.1 d.2.2.2.1 d.2.2.2.2.1
def L115d_2 (k a : Nat) (b : List Y0_7) (c : Y0_31) (e f : Int) : Option Y0_12 := iter (R := Y0_53 × Unit) c115d_L2 (b115d_2 k) a ((), b, (c, ()), e, f, ())
theorem L115d_2_s (k a b c e f) : L115d_2 k (a + 1) b c e f = l115d_2 k (L115d_2 k a) b c e f := iter_succ _ _ _ _
def S115d (k : Nat) (a : List Y0_7) (b : Y0_31) : Option Y0_12 :=
 L115d_2 k k a b (a.length : Int) 0
def F115d : Fn := ⟨[.val ⟨false, Y0_25, false⟩, .pv (.clo 70 [.ref (.sl 89 Y0_16)])], [.val ⟨false, (.int .i64), true⟩], fun k x => S115d k x.1 x.2.1.1⟩
theorem ok115d : FnOK Tryz.prog 115 F115d := okF [(70, F70)] [] (fun k => (.loop 2 c115d_L2 (b115d_2 k) (fun g => .nil) .nil)) ⟨ok70, trivial⟩ Tryz.func115 rfl
def S68c (k : Nat) (a : List Y0_7) (b : Y0_31) : Option Y0_15 :=
 (S115d k a b).bind fun q0 =>
 some ((decide (q0.1.1 ≥ 0), ()), ())
def F68c : Fn := ⟨[.val ⟨false, Y0_25, false⟩, .pv (.clo 70 [.ref (.sl 89 Y0_16)])], [.val ⟨false, .bool, true⟩], fun k x => S68c k x.1 x.2.1.1⟩
theorem ok68c : FnOK Tryz.prog 68 F68c := okF [(115, F115d)] [] (fun k => .nil) ⟨ok115d, trivial⟩ Tryz.func68 rfl
abbrev c72_L1 : Cut := ⟨[0, 1, 11, 12, 13], [.pin false 0, .cell (.sl 89 Y0_16), .own 3 (.int .i64), cI, cI], [.mbox 36 [cI, cI, .cell Y0_39, .own 117 Y0_35, .cell .bool, .cell .bool, .cell .bool, .own 124 Y0_2, .own 3 (.int .i64), .own 4 .bool, .own 97 Y0_5, .own 3 (.int .i64), .own 4 .bool]], 55, []⟩
def l72_1 (k : Nat) (g1 : Int → Int → (List Y0_0) → Y0_68 → Bool → Bool → Bool → (List Y0_3) → (List Int) → (List Bool) → (List Y0_4) → (List Int) → (List Bool) → Y0_14 → (List Int) → Int → Int → Option ((Unit) × Y0_9 × Unit)) (a b : Int) (c : List Y0_0) (e : List (PN Int 5)) (f h i : Bool) (l : List Y0_3) (m : List Int) (n : List Bool) (o : List Y0_4) (p : List Int) (s : List Bool) (t : Y0_31) (u : List Int) (v w : Int) : Option ((Unit) × Y0_9 × Unit) :=
 (bif decide (w < v) then
  ix u w <|
  ix o (rd u w 0) <|
  (bif decide (w < (t.length : Int)) then
   ix t w <|
   (bif !(beqD Y0_16 (rd o (rd u w 0) (0, (0, 0), (0, 0), ([], []), (0, []), 0)).2.2.1 (rd t w (0, 0))) then
    ix t w <|
    (S37 k ((m, n), o) (rd u w 0) ((rd o (rd u w 0) (0, (0, 0), (0, 0), ([], []), (0, []), 0)).1, (rd o (rd u w 0) (0, (0, 0), (0, 0), ([], []), (0, []), 0)).2.1, rd t w (0, 0), (rd o (rd u w 0) (0, (0, 0), (0, 0), ([], []), (0, []), 0)).2.2.2)).bind fun q1 =>
    g1 a b c e f h i l q1.1.1.1.1 q1.1.1.1.2 q1.1.1.2 p s t u v (IntKind.i64.wrap (w + 1))
   else
    g1 a b c e f h i l m n o p s t u v (IntKind.i64.wrap (w + 1)))
  else
   g1 a b c e f h i l m n o p s t u v (IntKind.i64.wrap (w + 1)))
 else
  some ((), (a, b, c, e, f, h, i, l, m, n, o, p, s, ()), ()))
def b72_1 (k : Nat) (g : ((Y0_9 × Unit) × Unit × Y0_14 × (List Int) × Int × Int × Unit) → Option ((Unit) × Y0_9 × Unit)) (d : (Y0_9 × Unit) × Unit × Y0_14 × (List Int) × Int × Int × Unit) : Option ((Unit) × Y0_9 × Unit) := l72_1 k (fun a b c e f h i l m n o p s t u v w => g (((a, b, c, e, f, h, i, l, m, n, o, p, s, ()), ()), (), t, u, v, w, ())) d.1.1.1 d.1.1.2.1 d.1.1.2.2.1 d.1.1.2.2.2.1 d.1.1.2.2.2.2.1 d.1.1.2.2.2.2.2.1 d.1.1.2.2.2.2.2.2.1 d.1.1.2.2.2.2.2.2.2.1 d.1.1.2.2.2.2.2.2.2.2.1 d.1.1.2.2.2.2.2.2.2.2.2.1 d.1.1.2.2.2.2.2.2.2.2.2.2.1 d.1.1.2.2.2.2.2.2.2.2.2.2.2.1 d.1.1.2.2.2.2.2.2.2.2.2.2.2.2.1 d.2.2.1 d.2.2.2.1 d.2.2.2.2.1 d.2.2.2.2.2.1
def L72_1 (k a : Nat) (b c : Int) (e : List Y0_0) (f : List (PN Int 5)) (h i l : Bool) (m : List Y0_3) (n : List Int) (o : List Bool) (p : List Y0_4) (s : List Int) (t : List Bool) (u : Y0_31) (v : List Int) (w y : Int) : Option ((Unit) × Y0_9 × Unit) := iter (R := (Unit) × Y0_9 × Unit) c72_L1 (b72_1 k) a (((b, c, e, f, h, i, l, m, n, o, p, s, t, ()), ()), (), u, v, w, y, ())
theorem L72_1_s (k a b c e f h i l m n o p s t u v w y) : L72_1 k (a + 1) b c e f h i l m n o p s t u v w y = l72_1 k (L72_1 k a) b c e f h i l m n o p s t u v w y := iter_succ _ _ _ _
def S72 (k : Nat) (a b : Int) (c : List Y0_0) (e : List (PN Int 5)) (f h i : Bool) (l : List Y0_3) (m : List Int) (n : List Bool) (o : List Y0_4) (p : List Int) (s : List Bool) (t : Y0_31) : Option ((Unit) × Y0_9 × Unit) :=
 (S52 k ((m, n), o)).bind fun q0 =>
 L72_1 k k a b c e f h i l m n o p s t q0.1.1 (q0.1.1.length : Int) 0
def F72 : Fn := ⟨[.mbox 36 [cI, cI, .cell Y0_39, .own 117 Y0_35, .cell .bool, .cell .bool, .cell .bool, .own 124 Y0_2, .own 3 (.int .i64), .own 4 .bool, .own 97 Y0_5, .own 3 (.int .i64), .own 4 .bool], .val ⟨false, (.sl 89 Y0_16), false⟩], [], fun k x => S72 k x.1.1 x.1.2.1 x.1.2.2.1 x.1.2.2.2.1 x.1.2.2.2.2.1 x.1.2.2.2.2.2.1 x.1.2.2.2.2.2.2.1 x.1.2.2.2.2.2.2.2.1 x.1.2.2.2.2.2.2.2.2.1 x.1.2.2.2.2.2.2.2.2.2.1 x.1.2.2.2.2.2.2.2.2.2.2.1 x.1.2.2.2.2.2.2.2.2.2.2.2.1 x.1.2.2.2.2.2.2.2.2.2.2.2.2.1 x.2.1⟩
theorem ok72 : FnOK Tryz.prog 72 F72 := okF [(37, F37), (52, F52)] [] (fun k => (.loop 1 c72_L1 (b72_1 k) (fun g => .nil) .nil)) ⟨ok37, ok52, trivial⟩ Tryz.func72 rfl
abbrev c32_L12 : Cut := ⟨[1, 2, 4, 33, 34], [.box 36 [cI, cI, .cell Y0_39, .own 117 Y0_35, .cell .bool, .cell .bool, .cell .bool, .own 124 Y0_2, .own 3 (.int .i64), .own 4 .bool, .own 97 Y0_5, .own 3 (.int .i64), .own 4 .bool], .box 36 [cI, cI, .nil, .nil, .cell .bool, .cell .bool, .cell .bool, .nil, .nil, .nil, .nil, .nil, .nil], .box 137 [.own 89 Y0_16], cI, cI], [], 50, []⟩
def l32_12 (k : Nat) (g12 : Int → Int → (List Y0_0) → Y0_68 → Bool → Bool → Bool → (List Y0_3) → (List Int) → (List Bool) → (List Y0_4) → (List Int) → (List Bool) → Int → Int → Bool → Bool → Bool → Y0_14 → Int → Int → Option Y0_44) (a b : Int) (c : List Y0_0) (e : List (PN Int 5)) (f h i : Bool) (l : List Y0_3) (m : List Int) (n : List Bool) (o : List Y0_4) (p : List Int) (s : List Bool) (t u : Int) (v w y : Bool) (z : Y0_31) (A B : Int) : Option Y0_44 :=
 (bif decide (B < A) then
  (S71 k c B).bind fun q4 =>
  ix z B <|
  g12 a b c e f h i l m n o p s t u v w y (upd z B (q4.1.1, (rd z B (0, 0)).2)) A (IntKind.i64.wrap (B + 1))
 else
  (S72 k a b c e f h i l m n o p s z).bind fun q5 =>
  some (((q5.2.1.1, q5.2.1.2.1, q5.2.1.2.2.1, q5.2.1.2.2.2.1, true, q5.2.1.2.2.2.2.2.1, q5.2.1.2.2.2.2.2.2.1, q5.2.1.2.2.2.2.2.2.2.1, ((q5.2.1.2.2.2.2.2.2.2.2.1, q5.2.1.2.2.2.2.2.2.2.2.2.1), q5.2.1.2.2.2.2.2.2.2.2.2.2.1), q5.2.1.2.2.2.2.2.2.2.2.2.2.2.1, q5.2.1.2.2.2.2.2.2.2.2.2.2.2.2.1), 0, ()), ()))
def b32_12 (k : Nat) (g : ((Unit) × Y0_9 × Y0_21 × (Y0_14 × Unit) × Int × Int × Unit) → Option Y0_44) (d : (Unit) × Y0_9 × Y0_21 × (Y0_14 × Unit) × Int × Int × Unit) : Option Y0_44 := l32_12 k (fun a b c e f h i l m n o p s t u v w y z A B => g ((), (a, b, c, e, f, h, i, l, m, n, o, p, s, ()), (t, u, (), (), v, w, y, (), (), (), (), (), (), ()), (z, ()), A, B, ())) d.2.1.1 d.2.1.2.1 d.2.1.2.2.1 d.2.1.2.2.2.1 d.2.1.2.2.2.2.1 d.2.1.2.2.2.2.2.1 d.2.1.2.2.2.2.2.2.1 d.2.1.2.2.2.2.2.2.2.1 d.2.1.2.2.2.2.2.2.2.2.1 d.2.1.2.2.2.2.2.2.2.2.2.1 d.2.1.2.2.2.2.2.2.2.2.2.2.1 d.2.1.2.2.2.2.2.2.2.2.2.2.2.1 d.2.1.2.2.2.2.2.2.2.2.2.2.2.2.1 d.2.2.1.1 d.2.2.1.2.1 d.2.2.1.2.2.2.2.1 d.2.2.1.2.2.2.2.2.1 d.2.2.1.2.2.2.2.2.2.1 d.2.2.2.1.1 d.2.2.2.2.1 d.2.2.2.2.2.1
def L32_12 (k a : Nat) (b c : Int) (e : List Y0_0) (f : List (PN Int 5)) (h i l : Bool) (m : List Y0_3) (n : List Int) (o : List Bool) (p : List Y0_4) (s : List Int) (t : List Bool) (u v : Int) (w y z : Bool) (A : Y0_31) (B C : Int) : Option Y0_44 := iter (R := (Y0_8 × Int × Unit) × Unit) c32_L12 (b32_12 k) a ((), (b, c, e, f, h, i, l, m, n, o, p, s, t, ()), (u, v, (), (), w, y, z, (), (), (), (), (), (), ()), (A, ()), B, C, ())
theorem L32_12_s (k a b c e f h i l m n o p s t u v w y z A B C) : L32_12 k (a + 1) b c e f h i l m n o p s t u v w y z A B C = l32_12 k (L32_12 k a) b c e f h i l m n o p s t u v w y z A B C := iter_succ _ _ _ _
abbrev c32_L6 : Cut := ⟨[1, 2, 4, 16, 17, 18], [.box 36 [cI, cI, .cell Y0_39, .own 117 Y0_35, .cell .bool, .cell .bool, .cell .bool, .own 124 Y0_2, .own 3 (.int .i64), .own 4 .bool, .own 97 Y0_5, .own 3 (.int .i64), .own 4 .bool], .box 36 [cI, cI, .nil, .nil, .cell .bool, .cell .bool, .cell .bool, .nil, .nil, .nil, .nil, .nil, .nil], .box 137 [.own 89 Y0_16], .cell Y0_39, cI, cI], [], 50, []⟩
def l32_6 (k : Nat) (g6 : Int → Int → (List Y0_0) → Y0_68 → Bool → Bool → Bool → (List Y0_3) → (List Int) → (List Bool) → (List Y0_4) → (List Int) → (List Bool) → Int → Int → Bool → Bool → Bool → Y0_14 → (List Y0_0) → Int → Int → Option Y0_44) (a b : Int) (c : List Y0_0) (e : List (PN Int 5)) (f h i : Bool) (l : List Y0_3) (m : List Int) (n : List Bool) (o : List Y0_4) (p : List Int) (s : List Bool) (t u : Int) (v w y : Bool) (z : Y0_31) (A : List Y0_0) (B C : Int) : Option Y0_44 :=
 (bif decide (C < B) then
  ix A C <|
  (S69 k ([(rd A C (0, 0, 0, [], [], [])).2.2.2.1, (rd A C (0, 0, 0, [], [], [])).2.2.2.2.1] : List (List Y0_7))).bind fun q2 =>
  (S68c k q2.1.1 z).bind fun q3 =>
  (bif q3.1.1 then
   some (((a, b, c, e, f, h, i, l, ((m, n), o), p, s), 4, ()), ())
  else
   g6 a b c e f h i l m n o p s t u v w y z A B (IntKind.i64.wrap (C + 1)))
 else
  L32_12 k k a b c e f h i l m n o p s t u v w y z (z.length : Int) 0)
def b32_6 (k : Nat) (g : ((Unit) × Y0_9 × Y0_21 × (Y0_14 × Unit) × (List Y0_0) × Int × Int × Unit) → Option Y0_44) (d : (Unit) × Y0_9 × Y0_21 × (Y0_14 × Unit) × (List Y0_0) × Int × Int × Unit) : Option Y0_44 := l32_6 k (fun a b c e f h i l m n o p s t u v w y z A B C => g ((), (a, b, c, e, f, h, i, l, m, n, o, p, s, ()), (t, u, (), (), v, w, y, (), (), (), (), (), (), ()), (z, ()), A, B, C, ())) d.2.1.1 d.2.1.2.1 d.2.1.2.2.1 d.2.1.2.2.2.1 d.2.1.2.2.2.2.1 d.2.1.2.2.2.2.2.1 d.2.1.2.2.2.2.2.2.1 d.2.1.2.2.2.2.2.2.2.1 d.2.1.2.2.2.2.2.2.2.2.1 d.2.1.2.2.2.2.2.2.2.2.2.1 d.2.1.2.2.2.2.2.2.2.2.2.2.1 d.2.1.2.2.2.2.2.2.2.2.2.2.2.1 d.2.1.2.2.2.2.2.2.2.2.2.2.2.2.1 d.2.2.1.1 d.2.2.1.2.1 d.2.2.1.2.2.2.2.1 d.2.2.1.2.2.2.2.2.1 d.2.2.1.2.2.2.2.2.2.1 d.2.2.2.1.1 d.2.2.2.2.1 d.2.2.2.2.2.1 d.2.2.2.2.2.2.1
def L32_6 (k a : Nat) (b c : Int) (e : List Y0_0) (f : List (PN Int 5)) (h i l : Bool) (m : List Y0_3) (n : List Int) (o : List Bool) (p : List Y0_4) (s : List Int) (t : List Bool) (u v : Int) (w y z : Bool) (A : Y0_31) (B : List Y0_0) (C D : Int) : Option Y0_44 := iter (R := (Y0_8 × Int × Unit) × Unit) c32_L6 (b32_6 k) a ((), (b, c, e, f, h, i, l, m, n, o, p, s, t, ()), (u, v, (), (), w, y, z, (), (), (), (), (), (), ()), (A, ()), B, C, D, ())
theorem L32_6_s (k a b c e f h i l m n o p s t u v w y z A B C D) : L32_6 k (a + 1) b c e f h i l m n o p s t u v w y z A B C D = l32_6 k (L32_6 k a) b c e f h i l m n o p s t u v w y z A B C D := iter_succ _ _ _ _
def S32 (k : Nat) (a : Y0_20) : Option Y0_44 :=
 (S24 k a).bind fun q0 =>
 (bif q0.1.1.2.2.2.2.1 then
  some ((q0.1.1, 7, ()), ())
 else
  (S54 k q0.1.1).bind fun q1 =>
  L32_6 k k q0.1.1.1 q0.1.1.2.1 q0.1.1.2.2.1 q0.1.1.2.2.2.1 q0.1.1.2.2.2.2.1 q0.1.1.2.2.2.2.2.1 q0.1.1.2.2.2.2.2.2.1 q0.1.1.2.2.2.2.2.2.2.1 q0.1.1.2.2.2.2.2.2.2.2.1.1.1 q0.1.1.2.2.2.2.2.2.2.2.1.1.2 q0.1.1.2.2.2.2.2.2.2.2.1.2 q0.1.1.2.2.2.2.2.2.2.2.2.1 q0.1.1.2.2.2.2.2.2.2.2.2.2 0 0 false false false q1.1.1 q0.1.1.2.2.1 (q0.1.1.2.2.1.length : Int) 0)
def F32 : Fn := ⟨[.val ⟨true, Y0_10, false⟩], [.val ⟨true, Y0_10, false⟩, .val ⟨false, (.int .i64), true⟩], fun k x => S32 k x.1⟩
theorem ok32 : FnOK Tryz.prog 32 F32 := okF [(24, F24), (54, F54), (68, F68c), (69, F69), (71, F71), (72, F72)] [] (fun k => (.loop 12 c32_L12 (b32_12 k) (fun g => .nil) (.loop 6 c32_L6 (b32_6 k) (fun g => .nil) .nil))) ⟨ok24, ok54, ok68c, ok69, ok71, ok72, trivial⟩ Tryz.func32 rfl
def S15 (k : Nat) (a b : Int) (c : List Y0_0) (e : List (PN Int 5)) (f h i : Bool) (l : List Y0_3) (m : List Int) (n : List Bool) (o : List Y0_4) (p : List Int) (s : List Bool) (t u v w : Int) (y z A : List Y0_7) (B C D G H : Int) (I : List (PN Int 6)) (J K M N : Int) : Option Y0_67 :=
 (S32 k (a, b, c, e, f, h, i, l, ((m, n), o), p, s)).bind fun q0 =>
 (bif q0.1.2.1 == 0 then
  (S12 k (q0.1.1.2.2.1.length : Int)).bind fun q1 =>
  some ((), (q0.1.1.1, q0.1.1.2.1, q0.1.1.2.2.1, q0.1.1.2.2.2.1, q0.1.1.2.2.2.2.1, q0.1.1.2.2.2.2.2.1, q0.1.1.2.2.2.2.2.2.1, q0.1.1.2.2.2.2.2.2.2.1, q0.1.1.2.2.2.2.2.2.2.2.1.1.1, q0.1.1.2.2.2.2.2.2.2.2.1.1.2, q0.1.1.2.2.2.2.2.2.2.2.1.2, q1.1.1.1, q1.1.1.2, t, u, v, w, y, z, A, B, C, D, G, H, I, q0.1.2.1, K, M, N, ()), ())
 else
  some ((), (a, b, c, e, f, h, i, l, m, n, o, p, s, t, u, v, w, y, z, A, B, C, D, G, H, I, q0.1.2.1, K, M, N, ()), ()))
def F15 : Fn := ⟨[.mbox 71 [cI, cI, .cell Y0_39, .cell (.sl 117 Y0_35), .cell .bool, .cell .bool, .cell .bool, .cell (.sl 124 Y0_2), .cell Y0_18, .cell Y0_57, .cell (.sl 97 Y0_5), .cell Y0_18, .cell Y0_57, cI, cI, cI, cI, .cell Y0_25, .cell Y0_25, .cell Y0_25, cI, cI, cI, cI, .cell (.int .u32), .own 58 Y0_65, cI, cI, cI, cI]], [], fun k x => S15 k x.1.1 x.1.2.1 x.1.2.2.1 x.1.2.2.2.1 x.1.2.2.2.2.1 x.1.2.2.2.2.2.1 x.1.2.2.2.2.2.2.1 x.1.2.2.2.2.2.2.2.1 x.1.2.2.2.2.2.2.2.2.1 x.1.2.2.2.2.2.2.2.2.2.1 x.1.2.2.2.2.2.2.2.2.2.2.1 x.1.2.2.2.2.2.2.2.2.2.2.2.1 x.1.2.2.2.2.2.2.2.2.2.2.2.2.1 x.1.2.2.2.2.2.2.2.2.2.2.2.2.2.1 x.1.2.2.2.2.2.2.2.2.2.2.2.2.2.2.1 x.1.2.2.2.2.2.2.2.2.2.2.2.2.2.2.2.1 x.1.2.2.2.2.2.2.2.2.2.2.2.2.2.2.2.2.1 x.1.2.2.2.2.2.2.2.2.2.2.2.2.2.2.2.2.2.1 x.1.2.2.2.2.2.2.2.2.2.2.2.2.2.2.2.2.2.2.1 x.1.2.2.2.2.2.2.2.2.2.2.2.2.2.2.2.2.2.2.2.1 x.1.2.2.2.2.2.2.2.2.2.2.2.2.2.2.2.2.2.2.2.2.1 x.1.2.2.2.2.2.2.2.2.2.2.2.2.2.2.2.2.2.2.2.2.2.1 x.1.2.2.2.2.2.2.2.2.2.2.2.2.2.2.2.2.2.2.2.2.2.2.1 x.1.2.2.2.2.2.2.2.2.2.2.2.2.2.2.2.2.2.2.2.2.2.2.2.1 x.1.2.2.2.2.2.2.2.2.2.2.2.2.2.2.2.2.2.2.2.2.2.2.2.2.1 x.1.2.2.2.2.2.2.2.2.2.2.2.2.2.2.2.2.2.2.2.2.2.2.2.2.2.1 x.1.2.2.2.2.2.2.2.2.2.2.2.2.2.2.2.2.2.2.2.2.2.2.2.2.2.2.1 x.1.2.2.2.2.2.2.2.2.2.2.2.2.2.2.2.2.2.2.2.2.2.2.2.2.2.2.2.1 x.1.2.2.2.2.2.2.2.2.2.2.2.2.2.2.2.2.2.2.2.2.2.2.2.2.2.2.2.2.1 x.1.2.2.2.2.2.2.2.2.2.2.2.2.2.2.2.2.2.2.2.2.2.2.2.2.2.2.2.2.2.1⟩
theorem ok15 : FnOK Tryz.prog 15 F15 := okF [(12, F12), (32, F32)] [] (fun k => .nil) ⟨ok12, ok32, trivial⟩ Tryz.func15 rfl
def S16 (k : Nat) (a b : Int) (c : List Y0_0) (e : List (PN Int 5)) (f h i : Bool) (l : List Y0_3) (m : List Int) (n : List Bool) (o : List Y0_4) (p : List Int) (s : List Bool) (t u v w : Int) (y z A : List Y0_7) (B C D G H : Int) (I : List (PN Int 6)) (J K M N : Int) : Option Y0_67 :=
 (S33 k (a, b, c, e, f, h, i, l, ((m, n), o), p, s) D G).bind fun q0 =>
 some ((), (q0.1.1.1, q0.1.1.2.1, q0.1.1.2.2.1, q0.1.1.2.2.2.1, q0.1.1.2.2.2.2.1, q0.1.1.2.2.2.2.2.1, q0.1.1.2.2.2.2.2.2.1, q0.1.1.2.2.2.2.2.2.2.1, q0.1.1.2.2.2.2.2.2.2.2.1.1.1, q0.1.1.2.2.2.2.2.2.2.2.1.1.2, q0.1.1.2.2.2.2.2.2.2.2.1.2, q0.1.1.2.2.2.2.2.2.2.2.2.1, q0.1.1.2.2.2.2.2.2.2.2.2.2, t, u, v, w, y, z, A, B, C, D, G, H, q0.1.2.1, q0.1.2.2.1, K, M, N, ()), ())
def F16 : Fn := ⟨[.mbox 71 [cI, cI, .cell Y0_39, .cell (.sl 117 Y0_35), .cell .bool, .cell .bool, .cell .bool, .cell (.sl 124 Y0_2), .cell Y0_18, .cell Y0_57, .cell (.sl 97 Y0_5), .cell Y0_18, .cell Y0_57, cI, cI, cI, cI, .cell Y0_25, .cell Y0_25, .cell Y0_25, cI, cI, cI, cI, .cell (.int .u32), .own 58 Y0_65, cI, cI, cI, cI]], [], fun k x => S16 k x.1.1 x.1.2.1 x.1.2.2.1 x.1.2.2.2.1 x.1.2.2.2.2.1 x.1.2.2.2.2.2.1 x.1.2.2.2.2.2.2.1 x.1.2.2.2.2.2.2.2.1 x.1.2.2.2.2.2.2.2.2.1 x.1.2.2.2.2.2.2.2.2.2.1 x.1.2.2.2.2.2.2.2.2.2.2.1 x.1.2.2.2.2.2.2.2.2.2.2.2.1 x.1.2.2.2.2.2.2.2.2.2.2.2.2.1 x.1.2.2.2.2.2.2.2.2.2.2.2.2.2.1 x.1.2.2.2.2.2.2.2.2.2.2.2.2.2.2.1 x.1.2.2.2.2.2.2.2.2.2.2.2.2.2.2.2.1 x.1.2.2.2.2.2.2.2.2.2.2.2.2.2.2.2.2.1 x.1.2.2.2.2.2.2.2.2.2.2.2.2.2.2.2.2.2.1 x.1.2.2.2.2.2.2.2.2.2.2.2.2.2.2.2.2.2.2.1 x.1.2.2.2.2.2.2.2.2.2.2.2.2.2.2.2.2.2.2.2.1 x.1.2.2.2.2.2.2.2.2.2.2.2.2.2.2.2.2.2.2.2.2.1 x.1.2.2.2.2.2.2.2.2.2.2.2.2.2.2.2.2.2.2.2.2.2.1 x.1.2.2.2.2.2.2.2.2.2.2.2.2.2.2.2.2.2.2.2.2.2.2.1 x.1.2.2.2.2.2.2.2.2.2.2.2.2.2.2.2.2.2.2.2.2.2.2.2.1 x.1.2.2.2.2.2.2.2.2.2.2.2.2.2.2.2.2.2.2.2.2.2.2.2.2.1 x.1.2.2.2.2.2.2.2.2.2.2.2.2.2.2.2.2.2.2.2.2.2.2.2.2.2.1 x.1.2.2.2.2.2.2.2.2.2.2.2.2.2.2.2.2.2.2.2.2.2.2.2.2.2.2.1 x.1.2.2.2.2.2.2.2.2.2.2.2.2.2.2.2.2.2.2.2.2.2.2.2.2.2.2.2.1 x.1.2.2.2.2.2.2.2.2.2.2.2.2.2.2.2.2.2.2.2.2.2.2.2.2.2.2.2.2.1 x.1.2.2.2.2.2.2.2.2.2.2.2.2.2.2.2.2.2.2.2.2.2.2.2.2.2.2.2.2.2.1⟩
theorem ok16 : FnOK Tryz.prog 16 F16 := okF [(33, F33)] [] (fun k => .nil) ⟨ok33, trivial⟩ Tryz.func16 rfl
abbrev c166_L3 : Cut := ⟨[1, 3, 7, 8], [.box 29 [.cell Y0_18, .cell Y0_57], .mp 271 true Y0_16 false .bool, cI, cI], [], 26, []⟩
def l166_3 (k : Nat) (g3 : (List Int) → (List Bool) → (List Y0_73) → Int → Int → Option Y0_47) (a : List Int) (b : List Bool) (c : List Y0_73) (e f : Int) : Option Y0_47 :=
 (bif decide (f < e) then
  ix b f <|
  (bif rd b f false then
   ix a f <|
   g3 a b (updD Y0_16 .bool (f, rd a f 0) true c) e (IntKind.i64.wrap (f + 1))
  else
   g3 a b c e (IntKind.i64.wrap (f + 1)))
 else
  some ((c, ()), ()))
def b166_3 (k : Nat) (g : ((Unit) × ((List Int) × (List Bool) × Unit) × (List Y0_73) × Int × Int × Unit) → Option Y0_47) (d : (Unit) × ((List Int) × (List Bool) × Unit) × (List Y0_73) × Int × Int × Unit) : Option Y0_47 := l166_3 k (fun a b c e f => g ((), (a, b, ()), c, e, f, ())) d.2.1.1 d.2.1.2.1 d.2.2.1 d.2.2.2.1 d.2.2.2.2.1
def L166_3 (k a : Nat) (b : List Int) (c : List Bool) (e : List Y0_73) (f h : Int) : Option Y0_47 := iter (R := ((List Y0_73) × Unit) × Unit) c166_L3 (b166_3 k) a ((), (b, c, ()), e, f, h, ())
theorem L166_3_s (k a b c e f h) : L166_3 k (a + 1) b c e f h = l166_3 k (L166_3 k a) b c e f h := iter_succ _ _ _ _
def S166 (k : Nat) (a : Y0_71) : Option Y0_47 :=
 (S114 k a).bind fun q0 =>
 L166_3 k k a.1 a.2 ([] : List Y0_73) q0.1.1 0
def F166 : Fn := ⟨[.val ⟨true, Y0_29, false⟩], [.pv (.mp 271 true Y0_16 false .bool)], fun k x => S166 k x.1⟩
theorem ok166 : FnOK Tryz.prog 166 F166 := okF [(114, F114)] [] (fun k => (.loop 3 c166_L3 (b166_3 k) (fun g => .nil) .nil)) ⟨ok114, trivial⟩ Tryz.func166 rfl
def S124 (k : Nat) (a : Y0_71) (b : Int × Int) : Option Y0_15 :=
 (S166 k a).bind fun q0 =>
 some ((mget Y0_16 .bool b q0.1.1 false, ()), ())
def F124 : Fn := ⟨[.val ⟨true, Y0_29, false⟩, .val ⟨true, Y0_16, false⟩], [.val ⟨false, .bool, true⟩], fun k x => S124 k x.1 x.2.1⟩
theorem ok124 : FnOK Tryz.prog 124 F124 := okF [(166, F166)] [] (fun k => .nil) ⟨ok166, trivial⟩ Tryz.func124 rfl
def S76 (k : Nat) (a : Y0_26 × List Y0_4) (b : Int × Int) : Option Y0_34 :=
 (S124 k a.1 b).bind fun q0 =>
 (bif !q0.1.1 then
  some ((0, false, ()), ())
 else
  (S78 k a b.1).bind fun q1 =>
  (bif !q1.1.1 then
   some ((0, false, ()), ())
  else
   some ((b.1, true, ()), ())))
def F76 : Fn := ⟨[.val ⟨true, Y0_55, false⟩, .val ⟨true, Y0_16, false⟩], [.val ⟨false, (.int .i64), true⟩, .val ⟨false, .bool, true⟩], fun k x => S76 k x.1 x.2.1⟩
theorem ok76 : FnOK Tryz.prog 76 F76 := okF [(78, F78), (124, F124)] [] (fun k => .nil) ⟨ok78, ok124, trivial⟩ Tryz.func76 rfl
def S34 (k : Nat) (a b : Int) (c : List Y0_0) (e : List (PN Int 5)) (f h i : Bool) (l : List Y0_3) (m : List Int) (n : List Bool) (o : List Y0_4) (p : List Int) (s : List Bool) (t u v w : Int) (y z A : List Y0_7) (B C D G H : Int) (I : List (PN Int 6)) (J K M N O : Int) : Option ((Int × Y0_4 × Bool × Unit) × Y0_11 × Unit) :=
 (S76 k ((m, n), o) (B, C)).bind fun q0 =>
 (bif !q0.1.2.1 then
  some ((0, (0, (0, 0), (0, 0), ([], []), (0, []), 0), false, ()), (a, b, c, e, f, h, i, l, m, n, o, p, s, t, u, v, w, y, z, A, B, C, D, G, H, I, 3, K, M, N, ()), ())
 else
  ix o q0.1.1 <|
  (bif (rd o q0.1.1 (0, (0, 0), (0, 0), ([], []), (0, []), 0)).1 != O then
   some ((0, (0, (0, 0), (0, 0), ([], []), (0, []), 0), false, ()), (a, b, c, e, f, h, i, l, m, n, o, p, s, t, u, v, w, y, z, A, B, C, D, G, H, I, 3, K, M, N, ()), ())
  else
   ix o q0.1.1 <|
   some ((q0.1.1, rd o q0.1.1 (0, (0, 0), (0, 0), ([], []), (0, []), 0), true, ()), (a, b, c, e, f, h, i, l, m, n, o, p, s, t, u, v, w, y, z, A, B, C, D, G, H, I, J, K, M, N, ()), ())))
def F34 : Fn := ⟨[.mbox 71 [cI, cI, .cell Y0_39, .cell (.sl 117 Y0_35), .cell .bool, .cell .bool, .cell .bool, .cell (.sl 124 Y0_2), .cell Y0_18, .cell Y0_57, .cell (.sl 97 Y0_5), .cell Y0_18, .cell Y0_57, cI, cI, cI, cI, .cell Y0_25, .cell Y0_25, .cell Y0_25, cI, cI, cI, cI, .cell (.int .u32), .own 58 Y0_65, cI, cI, cI, cI], .val ⟨false, (.int .i64), false⟩], [.val ⟨false, (.int .i64), true⟩, .val ⟨true, Y0_5, false⟩, .val ⟨false, .bool, true⟩], fun k x => S34 k x.1.1 x.1.2.1 x.1.2.2.1 x.1.2.2.2.1 x.1.2.2.2.2.1 x.1.2.2.2.2.2.1 x.1.2.2.2.2.2.2.1 x.1.2.2.2.2.2.2.2.1 x.1.2.2.2.2.2.2.2.2.1 x.1.2.2.2.2.2.2.2.2.2.1 x.1.2.2.2.2.2.2.2.2.2.2.1 x.1.2.2.2.2.2.2.2.2.2.2.2.1 x.1.2.2.2.2.2.2.2.2.2.2.2.2.1 x.1.2.2.2.2.2.2.2.2.2.2.2.2.2.1 x.1.2.2.2.2.2.2.2.2.2.2.2.2.2.2.1 x.1.2.2.2.2.2.2.2.2.2.2.2.2.2.2.2.1 x.1.2.2.2.2.2.2.2.2.2.2.2.2.2.2.2.2.1 x.1.2.2.2.2.2.2.2.2.2.2.2.2.2.2.2.2.2.1 x.1.2.2.2.2.2.2.2.2.2.2.2.2.2.2.2.2.2.2.1 x.1.2.2.2.2.2.2.2.2.2.2.2.2.2.2.2.2.2.2.2.1 x.1.2.2.2.2.2.2.2.2.2.2.2.2.2.2.2.2.2.2.2.2.1 x.1.2.2.2.2.2.2.2.2.2.2.2.2.2.2.2.2.2.2.2.2.2.1 x.1.2.2.2.2.2.2.2.2.2.2.2.2.2.2.2.2.2.2.2.2.2.2.1 x.1.2.2.2.2.2.2.2.2.2.2.2.2.2.2.2.2.2.2.2.2.2.2.2.1 x.1.2.2.2.2.2.2.2.2.2.2.2.2.2.2.2.2.2.2.2.2.2.2.2.2.1 x.1.2.2.2.2.2.2.2.2.2.2.2.2.2.2.2.2.2.2.2.2.2.2.2.2.2.1 x.1.2.2.2.2.2.2.2.2.2.2.2.2.2.2.2.2.2.2.2.2.2.2.2.2.2.2.1 x.1.2.2.2.2.2.2.2.2.2.2.2.2.2.2.2.2.2.2.2.2.2.2.2.2.2.2.2.1 x.1.2.2.2.2.2.2.2.2.2.2.2.2.2.2.2.2.2.2.2.2.2.2.2.2.2.2.2.2.1 x.1.2.2.2.2.2.2.2.2.2.2.2.2.2.2.2.2.2.2.2.2.2.2.2.2.2.2.2.2.2.1 x.2.1⟩
theorem ok34 : FnOK Tryz.prog 34 F34 := okF [(76, F76)] [] (fun k => .nil) ⟨ok76, trivial⟩ Tryz.func34 rfl
def S77 (k : Nat) (a : (List Int) × List Int) : Option ((((List Int) × List Int) × Unit) × Unit) :=
 (S125 k a.1).bind fun q0 =>
 (S89 k a.2).bind fun q1 =>
 some (((q0.1.1, q1.1.1), ()), ())
def F77 : Fn := ⟨[.val ⟨true, (.pair Y0_62 Y0_18), false⟩], [.val ⟨true, (.pair Y0_62 Y0_18), true⟩], fun k x => S77 k x.1⟩
theorem ok77 : FnOK Tryz.prog 77 F77 := okF [(89, F89), (125, F125)] [] (fun k => .nil) ⟨ok89, ok125, trivial⟩ Tryz.func77 rfl
def S35 (k : Nat) (a : (List Int) × List Int) (b : Int) : Option ((((List Int) × List Int) × Int × Bool × Unit) × Unit) :=
 (S77 k a).bind fun q0 =>
 (bif decide ((q0.1.1.2.length : Int) > 0) then
  ix q0.1.1.2 0 <|
  sx q0.1.1.2 1 (q0.1.1.2.length : Int) <|
  some (((q0.1.1.1, sub q0.1.1.2 1 (q0.1.1.2.length : Int)), rd q0.1.1.2 0 0, true, ()), ())
 else
  (bif decide ((q0.1.1.1.length : Int) ≥ 4) then
   some ((q0.1.1, 0, false, ()), ())
  else
   ap q0.1.1.1 ([b] : List Int) 8 fun r1 =>
   some (((r1, q0.1.1.2), 0, true, ()), ())))
def F35 : Fn := ⟨[.val ⟨true, (.pair Y0_62 Y0_18), false⟩, .val ⟨false, (.int .i64), false⟩], [.val ⟨true, (.pair Y0_62 Y0_18), false⟩, .val ⟨false, (.int .i64), true⟩, .val ⟨false, .bool, true⟩], fun k x => S35 k x.1 x.2.1⟩
theorem ok35 : FnOK Tryz.prog 35 F35 := okF [(77, F77)] [] (fun k => .nil) ⟨ok77, trivial⟩ Tryz.func35 rfl
def S36 (k : Nat) (a b : Int) (c : List Y0_0) (e : List (PN Int 5)) (f h i : Bool) (l : List Y0_3) (m : List Int) (n : List Bool) (o : List Y0_4) (p : List Int) (s : List Bool) (t u v w : Int) (y z A : List Y0_7) (B C D G H : Int) (I : List (PN Int 6)) (J K M N O P Q : Int) : Option Y0_67 :=
 ap I ([(a, 12, 0, O, P, Q)] : List (PN Int 6)) 48 fun r0 =>
 some ((), (a, b, c, e, f, h, i, l, m, n, o, p, s, t, u, v, w, y, z, A, B, C, D, G, H, r0, J, K, M, N, ()), ())
def F36 : Fn := ⟨[.mbox 71 [cI, cI, .cell Y0_39, .cell (.sl 117 Y0_35), .cell .bool, .cell .bool, .cell .bool, .cell (.sl 124 Y0_2), .cell Y0_18, .cell Y0_57, .cell (.sl 97 Y0_5), .cell Y0_18, .cell Y0_57, cI, cI, cI, cI, .cell Y0_25, .cell Y0_25, .cell Y0_25, cI, cI, cI, cI, .cell (.int .u32), .own 58 Y0_65, cI, cI, cI, cI], .val ⟨false, (.int .i64), false⟩, .val ⟨false, (.int .i64), false⟩, .val ⟨false, (.int .i64), false⟩], [], fun k x => S36 k x.1.1 x.1.2.1 x.1.2.2.1 x.1.2.2.2.1 x.1.2.2.2.2.1 x.1.2.2.2.2.2.1 x.1.2.2.2.2.2.2.1 x.1.2.2.2.2.2.2.2.1 x.1.2.2.2.2.2.2.2.2.1 x.1.2.2.2.2.2.2.2.2.2.1 x.1.2.2.2.2.2.2.2.2.2.2.1 x.1.2.2.2.2.2.2.2.2.2.2.2.1 x.1.2.2.2.2.2.2.2.2.2.2.2.2.1 x.1.2.2.2.2.2.2.2.2.2.2.2.2.2.1 x.1.2.2.2.2.2.2.2.2.2.2.2.2.2.2.1 x.1.2.2.2.2.2.2.2.2.2.2.2.2.2.2.2.1 x.1.2.2.2.2.2.2.2.2.2.2.2.2.2.2.2.2.1 x.1.2.2.2.2.2.2.2.2.2.2.2.2.2.2.2.2.2.1 x.1.2.2.2.2.2.2.2.2.2.2.2.2.2.2.2.2.2.2.1 x.1.2.2.2.2.2.2.2.2.2.2.2.2.2.2.2.2.2.2.2.1 x.1.2.2.2.2.2.2.2.2.2.2.2.2.2.2.2.2.2.2.2.2.1 x.1.2.2.2.2.2.2.2.2.2.2.2.2.2.2.2.2.2.2.2.2.2.1 x.1.2.2.2.2.2.2.2.2.2.2.2.2.2.2.2.2.2.2.2.2.2.2.1 x.1.2.2.2.2.2.2.2.2.2.2.2.2.2.2.2.2.2.2.2.2.2.2.2.1 x.1.2.2.2.2.2.2.2.2.2.2.2.2.2.2.2.2.2.2.2.2.2.2.2.2.1 x.1.2.2.2.2.2.2.2.2.2.2.2.2.2.2.2.2.2.2.2.2.2.2.2.2.2.1 x.1.2.2.2.2.2.2.2.2.2.2.2.2.2.2.2.2.2.2.2.2.2.2.2.2.2.2.1 x.1.2.2.2.2.2.2.2.2.2.2.2.2.2.2.2.2.2.2.2.2.2.2.2.2.2.2.2.1 x.1.2.2.2.2.2.2.2.2.2.2.2.2.2.2.2.2.2.2.2.2.2.2.2.2.2.2.2.2.1 x.1.2.2.2.2.2.2.2.2.2.2.2.2.2.2.2.2.2.2.2.2.2.2.2.2.2.2.2.2.2.1 x.2.1 x.2.2.1 x.2.2.2.1⟩
theorem ok36 : FnOK Tryz.prog 36 F36 := okF [] [] (fun k => .nil) trivial Tryz.func36 rfl
def S17 (k : Nat) (a b : Int) (c : List Y0_0) (e : List (PN Int 5)) (f h i : Bool) (l : List Y0_3) (m : List Int) (n : List Bool) (o : List Y0_4) (p : List Int) (s : List Bool) (t u v w : Int) (y z A : List Y0_7) (B C D G H : Int) (I : List (PN Int 6)) (J K M N : Int) : Option Y0_67 :=
 (S34 k a b c e f h i l m n o p s t u v w y z A B C D G H I J K M N 2).bind fun q0 =>
 (bif !q0.1.2.2.1 then
  some ((), q0.2.1, ())
 else
  (S35 k q0.1.2.1.2.2.2.1 q0.2.1.2.2.2.2.2.2.2.2.2.2.2.2.2.2.2.2.2.2.2.2.2.2.2.1).bind fun q1 =>
  (bif !q1.1.2.2.1 then
   some ((), (q0.2.1.1, q0.2.1.2.1, q0.2.1.2.2.1, q0.2.1.2.2.2.1, q0.2.1.2.2.2.2.1, q0.2.1.2.2.2.2.2.1, q0.2.1.2.2.2.2.2.2.1, q0.2.1.2.2.2.2.2.2.2.1, q0.2.1.2.2.2.2.2.2.2.2.1, q0.2.1.2.2.2.2.2.2.2.2.2.1, q0.2.1.2.2.2.2.2.2.2.2.2.2.1, q0.2.1.2.2.2.2.2.2.2.2.2.2.2.1, q0.2.1.2.2.2.2.2.2.2.2.2.2.2.2.1, q0.2.1.2.2.2.2.2.2.2.2.2.2.2.2.2.1, q0.2.1.2.2.2.2.2.2.2.2.2.2.2.2.2.2.1, q0.2.1.2.2.2.2.2.2.2.2.2.2.2.2.2.2.2.1, q0.2.1.2.2.2.2.2.2.2.2.2.2.2.2.2.2.2.2.1, q0.2.1.2.2.2.2.2.2.2.2.2.2.2.2.2.2.2.2.2.1, q0.2.1.2.2.2.2.2.2.2.2.2.2.2.2.2.2.2.2.2.2.1, q0.2.1.2.2.2.2.2.2.2.2.2.2.2.2.2.2.2.2.2.2.2.1, q0.2.1.2.2.2.2.2.2.2.2.2.2.2.2.2.2.2.2.2.2.2.2.1, q0.2.1.2.2.2.2.2.2.2.2.2.2.2.2.2.2.2.2.2.2.2.2.2.1, q0.2.1.2.2.2.2.2.2.2.2.2.2.2.2.2.2.2.2.2.2.2.2.2.2.1, q0.2.1.2.2.2.2.2.2.2.2.2.2.2.2.2.2.2.2.2.2.2.2.2.2.2.1, q0.2.1.2.2.2.2.2.2.2.2.2.2.2.2.2.2.2.2.2.2.2.2.2.2.2.2.1, q0.2.1.2.2.2.2.2.2.2.2.2.2.2.2.2.2.2.2.2.2.2.2.2.2.2.2.2.1, 4, q0.2.1.2.2.2.2.2.2.2.2.2.2.2.2.2.2.2.2.2.2.2.2.2.2.2.2.2.2.2.1, q0.2.1.2.2.2.2.2.2.2.2.2.2.2.2.2.2.2.2.2.2.2.2.2.2.2.2.2.2.2.2.1, q0.2.1.2.2.2.2.2.2.2.2.2.2.2.2.2.2.2.2.2.2.2.2.2.2.2.2.2.2.2.2.2.1, ()), ())
  else
   (bif decide (q1.1.2.1 > 0) then
    (S36 k q0.2.1.1 q0.2.1.2.1 q0.2.1.2.2.1 q0.2.1.2.2.2.1 q0.2.1.2.2.2.2.1 q0.2.1.2.2.2.2.2.1 q0.2.1.2.2.2.2.2.2.1 q0.2.1.2.2.2.2.2.2.2.1 q0.2.1.2.2.2.2.2.2.2.2.1 q0.2.1.2.2.2.2.2.2.2.2.2.1 q0.2.1.2.2.2.2.2.2.2.2.2.2.1 q0.2.1.2.2.2.2.2.2.2.2.2.2.2.1 q0.2.1.2.2.2.2.2.2.2.2.2.2.2.2.1 q0.2.1.2.2.2.2.2.2.2.2.2.2.2.2.2.1 q0.2.1.2.2.2.2.2.2.2.2.2.2.2.2.2.2.1 q0.2.1.2.2.2.2.2.2.2.2.2.2.2.2.2.2.2.1 q0.2.1.2.2.2.2.2.2.2.2.2.2.2.2.2.2.2.2.1 q0.2.1.2.2.2.2.2.2.2.2.2.2.2.2.2.2.2.2.2.1 q0.2.1.2.2.2.2.2.2.2.2.2.2.2.2.2.2.2.2.2.2.1 q0.2.1.2.2.2.2.2.2.2.2.2.2.2.2.2.2.2.2.2.2.2.1 q0.2.1.2.2.2.2.2.2.2.2.2.2.2.2.2.2.2.2.2.2.2.2.1 q0.2.1.2.2.2.2.2.2.2.2.2.2.2.2.2.2.2.2.2.2.2.2.2.1 q0.2.1.2.2.2.2.2.2.2.2.2.2.2.2.2.2.2.2.2.2.2.2.2.2.1 q0.2.1.2.2.2.2.2.2.2.2.2.2.2.2.2.2.2.2.2.2.2.2.2.2.2.1 q0.2.1.2.2.2.2.2.2.2.2.2.2.2.2.2.2.2.2.2.2.2.2.2.2.2.2.1 q0.2.1.2.2.2.2.2.2.2.2.2.2.2.2.2.2.2.2.2.2.2.2.2.2.2.2.2.1 q0.2.1.2.2.2.2.2.2.2.2.2.2.2.2.2.2.2.2.2.2.2.2.2.2.2.2.2.2.1 q0.2.1.2.2.2.2.2.2.2.2.2.2.2.2.2.2.2.2.2.2.2.2.2.2.2.2.2.2.2.1 q0.2.1.2.2.2.2.2.2.2.2.2.2.2.2.2.2.2.2.2.2.2.2.2.2.2.2.2.2.2.2.1 q0.2.1.2.2.2.2.2.2.2.2.2.2.2.2.2.2.2.2.2.2.2.2.2.2.2.2.2.2.2.2.2.1 q1.1.2.1 q0.2.1.2.2.2.2.2.2.2.2.2.2.2.2.2.2.2.2.2.2.2.2.2.2.2.1 0).bind fun q2 =>
    (S37 k ((q2.2.1.2.2.2.2.2.2.2.2.1, q2.2.1.2.2.2.2.2.2.2.2.2.1), q2.2.1.2.2.2.2.2.2.2.2.2.2.1) q0.1.1 (q0.1.2.1.1, q0.1.2.1.2.1, q0.1.2.1.2.2.1, q1.1.1, q0.1.2.1.2.2.2.2)).bind fun q3 =>
    some ((), (q2.2.1.1, q2.2.1.2.1, q2.2.1.2.2.1, q2.2.1.2.2.2.1, q2.2.1.2.2.2.2.1, q2.2.1.2.2.2.2.2.1, q2.2.1.2.2.2.2.2.2.1, q2.2.1.2.2.2.2.2.2.2.1, q3.1.1.1.1, q3.1.1.1.2, q3.1.1.2, q2.2.1.2.2.2.2.2.2.2.2.2.2.2.1, q2.2.1.2.2.2.2.2.2.2.2.2.2.2.2.1, q2.2.1.2.2.2.2.2.2.2.2.2.2.2.2.2.1, q2.2.1.2.2.2.2.2.2.2.2.2.2.2.2.2.2.1, q2.2.1.2.2.2.2.2.2.2.2.2.2.2.2.2.2.2.1, q2.2.1.2.2.2.2.2.2.2.2.2.2.2.2.2.2.2.2.1, q2.2.1.2.2.2.2.2.2.2.2.2.2.2.2.2.2.2.2.2.1, q2.2.1.2.2.2.2.2.2.2.2.2.2.2.2.2.2.2.2.2.2.1, q2.2.1.2.2.2.2.2.2.2.2.2.2.2.2.2.2.2.2.2.2.2.1, q2.2.1.2.2.2.2.2.2.2.2.2.2.2.2.2.2.2.2.2.2.2.2.1, q2.2.1.2.2.2.2.2.2.2.2.2.2.2.2.2.2.2.2.2.2.2.2.2.1, q2.2.1.2.2.2.2.2.2.2.2.2.2.2.2.2.2.2.2.2.2.2.2.2.2.1, q2.2.1.2.2.2.2.2.2.2.2.2.2.2.2.2.2.2.2.2.2.2.2.2.2.2.1, q2.2.1.2.2.2.2.2.2.2.2.2.2.2.2.2.2.2.2.2.2.2.2.2.2.2.2.1, q2.2.1.2.2.2.2.2.2.2.2.2.2.2.2.2.2.2.2.2.2.2.2.2.2.2.2.2.1, q2.2.1.2.2.2.2.2.2.2.2.2.2.2.2.2.2.2.2.2.2.2.2.2.2.2.2.2.2.1, q2.2.1.2.2.2.2.2.2.2.2.2.2.2.2.2.2.2.2.2.2.2.2.2.2.2.2.2.2.2.1, q2.2.1.2.2.2.2.2.2.2.2.2.2.2.2.2.2.2.2.2.2.2.2.2.2.2.2.2.2.2.2.1, q2.2.1.2.2.2.2.2.2.2.2.2.2.2.2.2.2.2.2.2.2.2.2.2.2.2.2.2.2.2.2.2.1, ()), ())
   else
    (S37 k ((q0.2.1.2.2.2.2.2.2.2.2.1, q0.2.1.2.2.2.2.2.2.2.2.2.1), q0.2.1.2.2.2.2.2.2.2.2.2.2.1) q0.1.1 (q0.1.2.1.1, q0.1.2.1.2.1, q0.1.2.1.2.2.1, q1.1.1, q0.1.2.1.2.2.2.2)).bind fun q4 =>
    some ((), (q0.2.1.1, q0.2.1.2.1, q0.2.1.2.2.1, q0.2.1.2.2.2.1, q0.2.1.2.2.2.2.1, q0.2.1.2.2.2.2.2.1, q0.2.1.2.2.2.2.2.2.1, q0.2.1.2.2.2.2.2.2.2.1, q4.1.1.1.1, q4.1.1.1.2, q4.1.1.2, q0.2.1.2.2.2.2.2.2.2.2.2.2.2.1, q0.2.1.2.2.2.2.2.2.2.2.2.2.2.2.1, q0.2.1.2.2.2.2.2.2.2.2.2.2.2.2.2.1, q0.2.1.2.2.2.2.2.2.2.2.2.2.2.2.2.2.1, q0.2.1.2.2.2.2.2.2.2.2.2.2.2.2.2.2.2.1, q0.2.1.2.2.2.2.2.2.2.2.2.2.2.2.2.2.2.2.1, q0.2.1.2.2.2.2.2.2.2.2.2.2.2.2.2.2.2.2.2.1, q0.2.1.2.2.2.2.2.2.2.2.2.2.2.2.2.2.2.2.2.2.1, q0.2.1.2.2.2.2.2.2.2.2.2.2.2.2.2.2.2.2.2.2.2.1, q0.2.1.2.2.2.2.2.2.2.2.2.2.2.2.2.2.2.2.2.2.2.2.1, q0.2.1.2.2.2.2.2.2.2.2.2.2.2.2.2.2.2.2.2.2.2.2.2.1, q0.2.1.2.2.2.2.2.2.2.2.2.2.2.2.2.2.2.2.2.2.2.2.2.2.1, q0.2.1.2.2.2.2.2.2.2.2.2.2.2.2.2.2.2.2.2.2.2.2.2.2.2.1, q0.2.1.2.2.2.2.2.2.2.2.2.2.2.2.2.2.2.2.2.2.2.2.2.2.2.2.1, q0.2.1.2.2.2.2.2.2.2.2.2.2.2.2.2.2.2.2.2.2.2.2.2.2.2.2.2.1, q0.2.1.2.2.2.2.2.2.2.2.2.2.2.2.2.2.2.2.2.2.2.2.2.2.2.2.2.2.1, q0.2.1.2.2.2.2.2.2.2.2.2.2.2.2.2.2.2.2.2.2.2.2.2.2.2.2.2.2.2.1, q0.2.1.2.2.2.2.2.2.2.2.2.2.2.2.2.2.2.2.2.2.2.2.2.2.2.2.2.2.2.2.1, q0.2.1.2.2.2.2.2.2.2.2.2.2.2.2.2.2.2.2.2.2.2.2.2.2.2.2.2.2.2.2.2.1, ()), ()))))
def F17 : Fn := ⟨[.mbox 71 [cI, cI, .cell Y0_39, .cell (.sl 117 Y0_35), .cell .bool, .cell .bool, .cell .bool, .cell (.sl 124 Y0_2), .cell Y0_18, .cell Y0_57, .cell (.sl 97 Y0_5), .cell Y0_18, .cell Y0_57, cI, cI, cI, cI, .cell Y0_25, .cell Y0_25, .cell Y0_25, cI, cI, cI, cI, .cell (.int .u32), .own 58 Y0_65, cI, cI, cI, cI]], [], fun k x => S17 k x.1.1 x.1.2.1 x.1.2.2.1 x.1.2.2.2.1 x.1.2.2.2.2.1 x.1.2.2.2.2.2.1 x.1.2.2.2.2.2.2.1 x.1.2.2.2.2.2.2.2.1 x.1.2.2.2.2.2.2.2.2.1 x.1.2.2.2.2.2.2.2.2.2.1 x.1.2.2.2.2.2.2.2.2.2.2.1 x.1.2.2.2.2.2.2.2.2.2.2.2.1 x.1.2.2.2.2.2.2.2.2.2.2.2.2.1 x.1.2.2.2.2.2.2.2.2.2.2.2.2.2.1 x.1.2.2.2.2.2.2.2.2.2.2.2.2.2.2.1 x.1.2.2.2.2.2.2.2.2.2.2.2.2.2.2.2.1 x.1.2.2.2.2.2.2.2.2.2.2.2.2.2.2.2.2.1 x.1.2.2.2.2.2.2.2.2.2.2.2.2.2.2.2.2.2.1 x.1.2.2.2.2.2.2.2.2.2.2.2.2.2.2.2.2.2.2.1 x.1.2.2.2.2.2.2.2.2.2.2.2.2.2.2.2.2.2.2.2.1 x.1.2.2.2.2.2.2.2.2.2.2.2.2.2.2.2.2.2.2.2.2.1 x.1.2.2.2.2.2.2.2.2.2.2.2.2.2.2.2.2.2.2.2.2.2.1 x.1.2.2.2.2.2.2.2.2.2.2.2.2.2.2.2.2.2.2.2.2.2.2.1 x.1.2.2.2.2.2.2.2.2.2.2.2.2.2.2.2.2.2.2.2.2.2.2.2.1 x.1.2.2.2.2.2.2.2.2.2.2.2.2.2.2.2.2.2.2.2.2.2.2.2.2.1 x.1.2.2.2.2.2.2.2.2.2.2.2.2.2.2.2.2.2.2.2.2.2.2.2.2.2.1 x.1.2.2.2.2.2.2.2.2.2.2.2.2.2.2.2.2.2.2.2.2.2.2.2.2.2.2.1 x.1.2.2.2.2.2.2.2.2.2.2.2.2.2.2.2.2.2.2.2.2.2.2.2.2.2.2.2.1 x.1.2.2.2.2.2.2.2.2.2.2.2.2.2.2.2.2.2.2.2.2.2.2.2.2.2.2.2.2.1 x.1.2.2.2.2.2.2.2.2.2.2.2.2.2.2.2.2.2.2.2.2.2.2.2.2.2.2.2.2.2.1⟩
theorem ok17 : FnOK Tryz.prog 17 F17 := okF [(34, F34), (35, F35), (36, F36), (37, F37)] [] (fun k => .nil) ⟨ok34, ok35, ok36, ok37, trivial⟩ Tryz.func17 rfl
end
end Go.Proofs.YtjemccmhbjfnaaaGreat.Ab
