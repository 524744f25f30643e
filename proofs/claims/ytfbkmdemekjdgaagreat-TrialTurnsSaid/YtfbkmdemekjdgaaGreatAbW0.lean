import Derived.Test.YtfbkmdemekjdgaaGreatPbI
import Derived.Lib.Overlaps
import Derived.Shelf.RegionOpenPlain
import Derived.Test.YtfbkmdemekjdgaaGreatPbC
/- Contracts, printed by this session's own program gen.py. -/
set_option linter.unusedVariables false
set_option linter.unusedSimpArgs false
set_option maxRecDepth 100000
namespace Go.Proofs.YtfbkmdemekjdgaaGreat.Ab
open Go.RowKit
abbrev cI : PV := .cell (.int .i64)
abbrev Y0_0 : Type := Int × Int × Int × (List (Int × Int × Int × Int)) × (List (Int × Int × Int × Int)) × List (Int × Int × Int × Int)
abbrev Y0_1 : Ty := .pair (.int .i64) (.pair (.int .i64) (.pair (.int .i64) (.pair (.sl 24 (.pair (.int .i64) (.pair (.int .i64) (.pair (.int .i64) (.int .i64))))) (.pair (.sl 24 (.pair (.int .i64) (.pair (.int .i64) (.pair (.int .i64) (.int .i64))))) (.sl 24 (.pair (.int .i64) (.pair (.int .i64) (.pair (.int .i64) (.int .i64)))))))))
abbrev Y0_2 : Ty := .pair (.int .i64) (.pair (.int .i64) (.pair (.int .i64) (.pair (.int .i64) (.pair (.pair (.int .i64) (.pair (arrT 8 (.int .i64)) (.pair (.sl 189 (.pair (.int .i64) (.pair (.int .i64) (.int .i64)))) .bool))) (.pair (.pair (.int .i64) (.pair (arrT 8 (.int .i64)) (.pair (.sl 189 (.pair (.int .i64) (.pair (.int .i64) (.int .i64)))) .bool))) (.pair (.sl 3 (.int .i64)) .bool))))))
abbrev Y0_3 : Type := Int × Int × Int × Int × (Int × (PN Int 8) × (List (Int × Int × Int)) × Bool) × (Int × (PN Int 8) × (List (Int × Int × Int)) × Bool) × (List Int) × Bool
abbrev Y0_4 : Type := Int × (Int × Int) × (Int × Int) × ((List Int) × List Int) × (Int × List (Int × Int)) × Int
abbrev Y0_5 : Ty := .pair (.int .i64) (.pair (.pair (.int .i64) (.int .i64)) (.pair (.pair (.int .i64) (.int .i64)) (.pair (.pair (.sl 2 (.int .i64)) (.sl 3 (.int .i64))) (.pair (.pair (.int .u32) (.sl 126 (.pair (.int .i64) (.int .u32)))) (.int .u32)))))
abbrev Y0_6 : Ty := .pair (.int .i64) (.pair (.int .i64) (.pair (.int .i64) (.int .i64)))
abbrev Y0_7 : Type := Int × Int × Int × Int
abbrev Y0_8 : Type := Int × Int × (List Y0_0) × (List (PN Int 5)) × Bool × Bool × Bool × (List Y0_3) × (((List Int) × List Bool) × List Y0_4) × (List Int) × List Bool
abbrev Y0_9 : Type := Int × Int × (List Y0_0) × (List (PN Int 5)) × Bool × Bool × Bool × (List Y0_3) × (List Int) × (List Bool) × (List Y0_4) × (List Int) × (List Bool) × Unit
abbrev Y0_10 : Ty := .pair (.int .i64) (.pair (.int .i64) (.pair (.sl 27 Y0_1) (.pair (.sl 134 (arrT 5 (.int .i64))) (.pair .bool (.pair .bool (.pair .bool (.pair (.sl 103 Y0_2) (.pair (.pair (.pair (.sl 3 (.int .i64)) (.sl 4 .bool)) (.sl 95 Y0_5)) (.pair (.sl 3 (.int .i64)) (.sl 4 .bool))))))))))
abbrev Y0_11 : Type := Int × Int × (List Y0_0) × (List (PN Int 5)) × Bool × Bool × Bool × (List Y0_3) × (List Int) × (List Bool) × (List Y0_4) × (List Int) × (List Bool) × Int × Int × Int × Int × (List Y0_7) × (List Y0_7) × (List Y0_7) × Int × Int × Int × Int × Int × (List (PN Int 6)) × Int × Int × Int × Int × Unit
abbrev Y0_12 : Type := (Int × Unit) × Unit
abbrev Y0_13 : Type := Int × Int × Int × Bool
abbrev Y0_14 : Type := List (Int × Int)
abbrev Y0_15 : Type := (Bool × Unit) × Unit
abbrev Y0_16 : Ty := .pair (.int .i64) (.int .i64)
abbrev Y0_17 : Ty := .pair (.int .i64) (.pair (.int .i64) (.pair (.int .i64) .bool))
abbrev Y0_18 : Ty := .sl 3 (.int .i64)
abbrev Y0_19 : Type := ((List Int) × Unit) × Unit
abbrev Y0_20 : Type := Int × Int × (List Y0_0) × (List (PN Int 5)) × Bool × Bool × Bool × (List Y0_3) × (((List Int) × List Bool) × List Y0_4) × (List Int) × List Bool
abbrev Y0_21 : Type := Int × Int × Unit × Unit × Bool × Bool × Bool × Unit × Unit × Unit × Unit × Unit × Unit × Unit
abbrev Y0_22 : Type := (List Y0_7) → (List Y0_13) → (List Int) → (List Y0_13) → Int → Int → Option Y0_15
abbrev Y0_23 : Type := (Int × Int × Int × Unit) × Unit
abbrev Y0_24 : Type := ((List Y0_0) × (List (PN Int 5)) × Int × Unit) × Unit
abbrev Y0_25 : Ty := .sl 24 Y0_6
abbrev Y0_26 : Type := (List Int) × List Bool
abbrev Y0_27 : Type := List (PN Bool 24)
abbrev Y0_28 : Type := Int × Int × Int × (List Y0_7) × (List Y0_7) × List Y0_7
abbrev Y0_29 : Ty := .pair Y0_18 (.sl 4 .bool)
abbrev Y0_30 : Type := (List Y0_0) → Int → Int → Y0_14 → (List Y0_0) → Int → Int → Option Y0_12
abbrev Y0_31 : Type := List (Int × Int)
abbrev Y0_32 : Type := (Y0_14 × Unit) × Unit
abbrev Y0_33 : Type := (List Y0_7) → Y0_27 → (List Y0_13) → Int → Int → Option ((Y0_27 × Unit) × Unit)
abbrev Y0_34 : Type := (Int × Bool × Unit) × Unit
abbrev Y0_35 : Ty := arrT 5 (.int .i64)
abbrev Y0_36 : Type := (List Y0_0) → Int → Int → Int → Int → Int → Int → Bool → Option Y0_23
abbrev Y0_37 : Type := (List Y0_7) → (List Int) → (List Int) → (List ((PN Bool 24) × Int)) → Y0_27 → Y0_27 → Int → Int → Option (((List Int) × Bool × Unit) × Unit)
abbrev Y0_38 : Type := ((List Y0_7) × Unit) × Unit
abbrev Y0_39 : Ty := .sl 27 Y0_1
abbrev Y0_40 : Type := ((Y0_26 × List Y0_4) × (Int × Int) × Bool × Unit) × Unit
abbrev Y0_41 : Type := Int × (Int × Int) × (Int × Int) × ((List Int) × List Int) × (Int × List (Int × Int)) × Int
abbrev Y0_42 : Type := ((Int × Int × List (Int × Int)) × Bool × Unit) × Unit
abbrev Y0_43 : Type := Int → Int → (List Y0_0) → (List (PN Int 5)) → Bool → Bool → Bool → (List Y0_3) → (List Int) → (List Bool) → (List Y0_4) → (List Int) → (List Bool) → Int → Int → Bool → Bool → Bool → Int → Int → Option ((Y0_8 × Unit) × Unit)
abbrev Y0_44 : Type := (Y0_8 × Int × Unit) × Unit
abbrev Y0_45 : Type := ((Y0_26 × List Y0_4) × Unit) × Unit
abbrev Y0_46 : Type := Int → (List Int) → Int → Int → Option Y0_12
abbrev Y0_47 : Type := ((List ((Int × Int) × Bool)) × Unit) × Unit
abbrev Y0_48 : Type := (List Int) → (List Y0_7) → Int → Int → Option Y0_19
abbrev Y0_49 : Type := (List Y0_0) → Int → Int → Y0_14 → (List Y0_0) → Int → Int → Y0_14 → Int → Int → Option Y0_12
abbrev Y0_50 : Type := Int × (PN Int 8) × (List (Int × Int × Int)) × Bool
abbrev Y0_51 : Type := List Y0_13
abbrev Y0_52 : Type := Int × Int × Int × (List Y0_7) × (List Y0_7) × (List Y0_7) × Unit
abbrev Y0_53 : Type := Int × Unit
abbrev Y0_54 : Type := ((List (PN Int 5)) × Int × Unit) × Unit
abbrev Y0_55 : Ty := .pair Y0_29 (.sl 95 Y0_5)
abbrev Y0_56 : Type := (Y0_27 × Unit) × Unit
abbrev Y0_57 : Ty := .sl 4 .bool
abbrev Y0_58 : Type := (Y0_8 × Unit) × Unit
abbrev Y0_59 : Type := ((List Int) × Bool × Unit) × Unit
abbrev Y0_60 : Type := Int × Int × Int × Bool × Unit
abbrev Y0_61 : Type := (List Int) × (List Bool) × (List Y0_4) × Unit
abbrev Y0_62 : Ty := .sl 2 (.int .i64)
abbrev Y0_63 : Type := ((Unit) × (List Y0_7) × Unit × Int × Int × Unit) → Option Y0_12
abbrev Y0_64 : Ty := arrT 24 .bool
abbrev Y0_65 : Ty := arrT 6 (.int .i64)
abbrev Y0_66 : Ty := .pair (.int .i64) (.int .u32)
abbrev Y0_67 : Type := (Unit) × Y0_11 × Unit
abbrev Y0_68 : Type := List (PN Int 5)
abbrev Y0_69 : Type := Int × Bool × Unit
abbrev Y0_70 : Type := PN Bool 24
abbrev Y0_71 : Type := (List Int) × List Bool
abbrev Y0_72 : Type := List (List Y0_7)
abbrev Y0_73 : Type := (Int × Int) × Bool
noncomputable section
def E0 : Env := tab.env (fun _ => none) (fun _ => 0)
theorem E0_ok : EnvOK Tryz.prog E0 := envOK_of tabOK _ _ (fun f F h => by cases h)
theorem okF {f : FuncId} {fn : Func} {F : Fn} {C : Code} (l : List (Nat × Fn)) (h : List (Nat × Nat)) (T : Nat → Tbl (RD F.rs × MD F.ps)) (hl : AllFn Tryz.prog l) (hf : Tryz.prog.funcs[f]? = some fn) (hb : fn.body = some C)
(h1 : (fn.name == "runtime.NumGoroutine") = false := by kernel_rfl) (h2 : Nat.ble F.ps.length fn.ntmps = true := by kernel_rfl)
(h3 : ∀ k, owedF (tab.env (lk l) (hintL h)) fn F.ps F.rs k true (T k) = owedF (tab.env (lk l) (hintL h)) fn F.ps F.rs k false (T k) := by intro k; kernel_rfl) (h4 : ∀ k x, F.sem k x = evalF (tab.env (lk l) (hintL h)) fn F.ps F.rs k (T k) x := by intro k x; kernel_rfl) : FnOK Tryz.prog f F :=
evalF_ok (envOK_of tabOK _ _ (allFn_lk hl)) mix hf hb h1 h2 h3 h4
def S39 (k : Nat) (a : Int) : Option ((Y0_26 × Unit) × Unit) :=
 mk (mn (mx a 0) 64) (mn (mx a 0) 64) 8 <|
 mk (mn (mx a 0) 64) (mn (mx a 0) 64) 1 <|
 some (((List.replicate (mn (mx a 0) 64).toNat (0 : Int), List.replicate (mn (mx a 0) 64).toNat (false : Bool)), ()), ())
def F39 : Fn := ⟨[.val ⟨false, (.int .i64), false⟩], [.val ⟨true, Y0_29, true⟩], fun k x => S39 k x.1⟩
theorem ok39 : FnOK Tryz.prog 39 F39 := okF [] [] (fun k => .nil) trivial Tryz.func39 rfl
def S15 (k : Nat) : Option Y0_45 :=
 (S39 k 12).bind fun q0 =>
 mk 12 12 128 <|
 some (((q0.1.1, List.replicate 12 ((0, (0, 0), (0, 0), ([], []), (0, []), 0) : Int × (Int × Int) × (Int × Int) × ((List Int) × List Int) × (Int × List (Int × Int)) × Int)), ()), ())
def F15 : Fn := ⟨[], [.val ⟨true, Y0_55, true⟩], fun k x => S15 k ⟩
theorem ok15 : FnOK Tryz.prog 15 F15 := okF [(39, F39)] [] (fun k => .nil) ⟨ok39, trivial⟩ Tryz.func15 rfl
def S16 (k : Nat) (a : Int) : Option ((Y0_26 × Unit) × Unit) :=
 mk (mn (mx a 0) 65536) (mn (mx a 0) 65536) 8 <|
 mk (mn (mx a 0) 65536) (mn (mx a 0) 65536) 1 <|
 some (((List.replicate (mn (mx a 0) 65536).toNat (0 : Int), List.replicate (mn (mx a 0) 65536).toNat (false : Bool)), ()), ())
def F16 : Fn := ⟨[.val ⟨false, (.int .i64), false⟩], [.val ⟨true, Y0_29, true⟩], fun k x => S16 k x.1⟩
theorem ok16 : FnOK Tryz.prog 16 F16 := okF [] [] (fun k => .nil) trivial Tryz.func16 rfl
def S10 (k : Nat) (a : Int) : Option ((Y0_8 × Bool × Unit) × Unit) :=
 (bif decide (a < 1) then
  some (((0, 0, [], [], false, false, false, [], (([], []), []), [], []), false, ()), ())
 else
  (bif decide (a > 4611686018427387904) then
   some (((0, 0, [], [], false, false, false, [], (([], []), []), [], []), false, ()), ())
  else
   (S15 k).bind fun q0 =>
   (S16 k 0).bind fun q1 =>
   some (((0, a, [], [], false, false, false, [], q0.1.1, q1.1.1), true, ()), ())))
def F10 : Fn := ⟨[.val ⟨false, (.int .i64), false⟩], [.val ⟨true, Y0_10, true⟩, .val ⟨false, .bool, true⟩], fun k x => S10 k x.1⟩
theorem ok10 : FnOK Tryz.prog 10 F10 := okF [(15, F15), (16, F16)] [] (fun k => .nil) ⟨ok15, ok16, trivial⟩ Tryz.func10 rfl
def S179 (k : Nat) (a : Int) : Option Y0_15 :=
 (bif decide (a ≥ 0) then
  some ((decide (a < 8), ()), ())
 else
  some ((false, ()), ()))
def F179 : Fn := ⟨[.val ⟨false, (.int .i64), false⟩], [.val ⟨false, .bool, true⟩], fun k x => S179 k x.1⟩
theorem ok179 : FnOK Tryz.prog 179 F179 := okF [] [] (fun k => .nil) trivial Tryz.func179 rfl
def S180 (k : Nat) (a b c : Int) : Option Y0_15 :=
 (bif decide (a ≥ b) then
  some ((decide (a ≤ c), ()), ())
 else
  some ((false, ()), ()))
def F180 : Fn := ⟨[.val ⟨false, (.int .i64), false⟩, .val ⟨false, (.int .i64), false⟩, .val ⟨false, (.int .i64), false⟩], [.val ⟨false, .bool, true⟩], fun k (a, b, c, _) => S180 k a b c⟩
theorem ok180 : FnOK Tryz.prog 180 F180 := okF [] [] (fun k => .nil) trivial Tryz.func180 rfl
def S156 (k : Nat) (a : Int × Int × Int × Int) : Option Y0_15 :=
 (bif a.1 == 0 then
  (bif a.2.1 == 0 then
   (bif a.2.2.1 == 0 then
    some ((a.2.2.2 == 0, ()), ())
   else
    some ((false, ()), ()))
  else
   some ((false, ()), ()))
 else
  (bif a.1 == 11 then
   (bif a.2.1 == 0 then
    (bif a.2.2.1 == 0 then
     some ((a.2.2.2 == 0, ()), ())
    else
     some ((false, ()), ()))
   else
    some ((false, ()), ()))
  else
   (bif a.1 == 1 then
    (S179 k a.2.1).bind fun q0 =>
    (bif q0.1.1 then
     (bif a.2.2.1 == 0 then
      (S180 k a.2.2.2 (-2147483648) 2147483647).bind fun q1 =>
      some ((q1.1.1, ()), ())
     else
      some ((false, ()), ()))
    else
     some ((false, ()), ()))
   else
    (bif a.1 == 2 then
     (S179 k a.2.1).bind fun q2 =>
     (bif q2.1.1 then
      (S179 k a.2.2.1).bind fun q3 =>
      (bif q3.1.1 then
       some ((a.2.2.2 == 0, ()), ())
      else
       some ((false, ()), ()))
     else
      some ((false, ()), ()))
    else
     (bif a.1 == 3 then
      (S179 k a.2.1).bind fun q4 =>
      (bif q4.1.1 then
       (S179 k a.2.2.1).bind fun q5 =>
       (bif q5.1.1 then
        some ((a.2.2.2 == 0, ()), ())
       else
        some ((false, ()), ()))
      else
       some ((false, ()), ()))
     else
      (bif a.1 == 4 then
       (S179 k a.2.1).bind fun q6 =>
       (bif q6.1.1 then
        (S179 k a.2.2.1).bind fun q7 =>
        (bif q7.1.1 then
         some ((a.2.2.2 == 0, ()), ())
        else
         some ((false, ()), ()))
       else
        some ((false, ()), ()))
      else
       (bif a.1 == 5 then
        (S179 k a.2.1).bind fun q8 =>
        (bif q8.1.1 then
         (bif a.2.2.1 == 0 then
          (S180 k a.2.2.2 (-63) 63).bind fun q9 =>
          some ((q9.1.1, ()), ())
         else
          some ((false, ()), ()))
        else
         some ((false, ()), ()))
       else
        (bif a.1 == 6 then
         (S179 k a.2.1).bind fun q10 =>
         (bif q10.1.1 then
          (bif a.2.2.1 == 0 then
           (S180 k a.2.2.2 1 64).bind fun q11 =>
           some ((q11.1.1, ()), ())
          else
           some ((false, ()), ()))
         else
          some ((false, ()), ()))
        else
         (bif a.1 == 7 then
          (S179 k a.2.1).bind fun q12 =>
          (bif q12.1.1 then
           (bif a.2.2.1 == 0 then
            (S180 k a.2.2.2 1 24).bind fun q13 =>
            some ((q13.1.1, ()), ())
           else
            some ((false, ()), ()))
          else
           some ((false, ()), ()))
         else
          (bif a.1 == 8 then
           (bif a.2.1 == 0 then
            (S180 k a.2.2.1 1 24).bind fun q14 =>
            (bif q14.1.1 then
             (S180 k a.2.2.2 1 20).bind fun q15 =>
             some ((q15.1.1, ()), ())
            else
             some ((false, ()), ()))
           else
            some ((false, ()), ()))
          else
           (bif a.1 == 9 then
            (S180 k a.2.1 0 3).bind fun q16 =>
            (bif q16.1.1 then
             (bif a.2.2.1 == 0 then
              some ((a.2.2.2 == 0, ()), ())
             else
              some ((false, ()), ()))
            else
             some ((false, ()), ()))
           else
            (bif a.1 == 10 then
             (S180 k a.2.1 0 3).bind fun q17 =>
             (bif q17.1.1 then
              (bif a.2.2.1 == 0 then
               some ((a.2.2.2 == 0, ()), ())
              else
               some ((false, ()), ()))
             else
              some ((false, ()), ()))
            else
             some ((false, ()), ())))))))))))))
def F156 : Fn := ⟨[.val ⟨true, Y0_6, false⟩], [.val ⟨false, .bool, true⟩], fun k x => S156 k x.1⟩
theorem ok156 : FnOK Tryz.prog 156 F156 := okF [(179, F179), (180, F180)] [] (fun k => .nil) ⟨ok179, ok180, trivial⟩ Tryz.func156 rfl
def S155 (k : Nat) (a : Int × Int × Int × Int) : Option Y0_15 :=
 (S156 k a).bind fun q0 =>
 some ((!q0.1.1, ()), ())
def F155 : Fn := ⟨[.val ⟨true, Y0_6, false⟩], [.val ⟨false, .bool, true⟩], fun k x => S155 k x.1⟩
theorem ok155 : FnOK Tryz.prog 155 F155 := okF [(156, F156)] [] (fun k => .nil) ⟨ok156, trivial⟩ Tryz.func155 rfl
abbrev c125_L2 : Cut := ⟨[0, 1, 7, 8], [.cell Y0_25, .clo 155 [], cI, cI], [], 19, []⟩
def l125_2 (k : Nat) (g2 : (List Y0_7) → Int → Int → Option Y0_12) (a : List Y0_7) (b c : Int) : Option Y0_12 :=
 (bif decide (c < b) then
  ix a c <|
  (S155 k (rd a c (0, 0, 0, 0))).bind fun q0 =>
  (bif q0.1.1 then
   some ((c, ()), ())
  else
   g2 a b (IntKind.i64.wrap (c + 1)))
 else
  some (((-1), ()), ()))
def b125_2 (k : Nat) (g : Y0_63) : ((Unit) × (List Y0_7) × Unit × Int × Int × Unit) → Option Y0_12 := fun (_, a, _, b, c, _) => l125_2 k (fun a b c => g ((), a, (), b, c, ())) a b c
def L125_2 (k a : Nat) (b : List Y0_7) (c e : Int) : Option Y0_12 := iter (R := Y0_53 × Unit) c125_L2 (b125_2 k) a ((), b, (), c, e, ())
theorem L125_2_s (k a b c e) : L125_2 k (a + 1) b c e = l125_2 k (L125_2 k a) b c e := iter_succ _ _ _ _
def S125 (k : Nat) (a : List Y0_7) : Option Y0_12 :=
 L125_2 k k a (a.length : Int) 0
def F125 : Fn := ⟨[.val ⟨false, Y0_25, false⟩, .pv (.clo 155 [])], [.val ⟨false, (.int .i64), true⟩], fun k x => S125 k x.1⟩
theorem ok125 : FnOK Tryz.prog 125 F125 := okF [(155, F155)] [] (fun k => (.loop 2 c125_L2 (b125_2 k) (fun g => .nil) .nil)) ⟨ok155, trivial⟩ Tryz.func125 rfl
def S83 (k : Nat) (a : List Y0_7) : Option Y0_15 :=
 (S125 k a).bind fun q0 =>
 some ((decide (q0.1.1 ≥ 0), ()), ())
def F83 : Fn := ⟨[.val ⟨false, Y0_25, false⟩, .pv (.clo 155 [])], [.val ⟨false, .bool, true⟩], fun k x => S83 k x.1⟩
theorem ok83 : FnOK Tryz.prog 83 F83 := okF [(125, F125)] [] (fun k => .nil) ⟨ok125, trivial⟩ Tryz.func83 rfl
def S157 (k : Nat) (a : Int × Int × Int × Int) : Option Y0_15 :=
 some ((a.1 == 0, ()), ())
def F157 : Fn := ⟨[.val ⟨true, Y0_6, false⟩], [.val ⟨false, .bool, true⟩], fun k x => S157 k x.1⟩
theorem ok157 : FnOK Tryz.prog 157 F157 := okF [] [] (fun k => .nil) trivial Tryz.func157 rfl
abbrev c125a_L2 : Cut := ⟨[0, 1, 7, 8], [.cell Y0_25, .clo 157 [], cI, cI], [], 19, []⟩
def l125a_2 (k : Nat) (g2 : (List Y0_7) → Int → Int → Option Y0_12) (a : List Y0_7) (b c : Int) : Option Y0_12 :=
 (bif decide (c < b) then
  ix a c <|
  (S157 k (rd a c (0, 0, 0, 0))).bind fun q0 =>
  (bif q0.1.1 then
   some ((c, ()), ())
  else
   g2 a b (IntKind.i64.wrap (c + 1)))
 else
  some (((-1), ()), ()))
def b125a_2 (k : Nat) (g : Y0_63) : ((Unit) × (List Y0_7) × Unit × Int × Int × Unit) → Option Y0_12 := fun (_, a, _, b, c, _) => l125a_2 k (fun a b c => g ((), a, (), b, c, ())) a b c
def L125a_2 (k a : Nat) (b : List Y0_7) (c e : Int) : Option Y0_12 := iter (R := Y0_53 × Unit) c125a_L2 (b125a_2 k) a ((), b, (), c, e, ())
theorem L125a_2_s (k a b c e) : L125a_2 k (a + 1) b c e = l125a_2 k (L125a_2 k a) b c e := iter_succ _ _ _ _
def S125a (k : Nat) (a : List Y0_7) : Option Y0_12 :=
 L125a_2 k k a (a.length : Int) 0
def F125a : Fn := ⟨[.val ⟨false, Y0_25, false⟩, .pv (.clo 157 [])], [.val ⟨false, (.int .i64), true⟩], fun k x => S125a k x.1⟩
theorem ok125a : FnOK Tryz.prog 125 F125a := okF [(157, F157)] [] (fun k => (.loop 2 c125a_L2 (b125a_2 k) (fun g => .nil) .nil)) ⟨ok157, trivial⟩ Tryz.func125 rfl
abbrev c181_L2 : Cut := ⟨[2, 5, 6, 7], [.own 288 Y0_17, .cell Y0_25, cI, cI], [], 42, []⟩
def l181_2 (k : Nat) (g2 : Y0_51 → (List Y0_7) → Int → Int → Option ((Y0_51 × Unit) × Unit)) (a : List Y0_13) (b : List Y0_7) (c e : Int) : Option ((Y0_51 × Unit) × Unit) :=
 (bif decide (e < c) then
  ix b e <|
  (bif (rd b e (0, 0, 0, 0)).1 == 8 then
   ap a ([(IntKind.i64.wrap (e + 1), IntKind.i64.wrap (e + (rd b e (0, 0, 0, 0)).2.2.1), e, true)] : List Y0_13) 32 fun r0 =>
   g2 r0 b c (IntKind.i64.wrap (e + 1))
  else
   (bif (rd b e (0, 0, 0, 0)).1 == 7 then
    ap a ([(IntKind.i64.wrap (e + 1), IntKind.i64.wrap (e + (rd b e (0, 0, 0, 0)).2.2.2), e, false)] : List Y0_13) 32 fun r1 =>
    g2 r1 b c (IntKind.i64.wrap (e + 1))
   else
    g2 a b c (IntKind.i64.wrap (e + 1))))
 else
  some ((a, ()), ()))
def b181_2 (k : Nat) (g : ((Unit) × Y0_51 × (List Y0_7) × Int × Int × Unit) → Option ((Y0_51 × Unit) × Unit)) : ((Unit) × Y0_51 × (List Y0_7) × Int × Int × Unit) → Option ((Y0_51 × Unit) × Unit) := fun (_, a, b, c, e, _) => l181_2 k (fun a b c e => g ((), a, b, c, e, ())) a b c e
def L181_2 (k a : Nat) (b : List Y0_13) (c : List Y0_7) (e f : Int) : Option ((Y0_51 × Unit) × Unit) := iter (R := (Y0_51 × Unit) × Unit) c181_L2 (b181_2 k) a ((), b, c, e, f, ())
theorem L181_2_s (k a b c e f) : L181_2 k (a + 1) b c e f = l181_2 k (L181_2 k a) b c e f := iter_succ _ _ _ _
def S181 (k : Nat) (a : List Y0_7) : Option ((Y0_51 × Unit) × Unit) :=
 L181_2 k k ([] : List Y0_13) a (a.length : Int) 0
def F181 : Fn := ⟨[.val ⟨false, Y0_25, false⟩], [.val ⟨false, (.sl 288 Y0_17), true⟩], fun k x => S181 k x.1⟩
theorem ok181 : FnOK Tryz.prog 181 F181 := okF [] [(2, 2)] (fun k => (.loop 2 c181_L2 (b181_2 k) (fun g => .nil) .nil)) trivial Tryz.func181 rfl
def S182 (k : Nat) (a : Int × Int × Int × Bool) (b : Int) : Option Y0_15 :=
 (bif decide (b ≥ a.1) then
  some ((decide (b ≤ a.2.1), ()), ())
 else
  some ((false, ()), ()))
def F182 : Fn := ⟨[.val ⟨true, Y0_17, false⟩, .val ⟨false, (.int .i64), false⟩], [.val ⟨false, .bool, true⟩], fun k x => S182 k x.1 x.2.1⟩
theorem ok182 : FnOK Tryz.prog 182 F182 := okF [] [] (fun k => .nil) trivial Tryz.func182 rfl
def S183 (k : Nat) (a b : Int × Int × Int × Bool) : Option Y0_15 :=
 (S182 k b a.1).bind fun q0 =>
 (bif q0.1.1 then
  (S182 k b a.2.1).bind fun q1 =>
  some ((q1.1.1, ()), ())
 else
  some ((false, ()), ()))
def F183 : Fn := ⟨[.val ⟨true, Y0_17, false⟩, .val ⟨true, Y0_17, false⟩], [.val ⟨false, .bool, true⟩], fun k x => S183 k x.1 x.2.1⟩
theorem ok183 : FnOK Tryz.prog 183 F183 := okF [(182, F182)] [] (fun k => .nil) ⟨ok182, trivial⟩ Tryz.func183 rfl
def S184 (k : Nat) (a b : Int × Int × Int × Bool) : Option Y0_15 :=
 (bif decide (a.2.1 < b.1) then
  some ((true, ()), ())
 else
  some ((decide (b.2.1 < a.1), ()), ()))
def F184 : Fn := ⟨[.val ⟨true, Y0_17, false⟩, .val ⟨true, Y0_17, false⟩], [.val ⟨false, .bool, true⟩], fun k x => S184 k x.1 x.2.1⟩
theorem ok184 : FnOK Tryz.prog 184 F184 := okF [] [] (fun k => .nil) trivial Tryz.func184 rfl
def S185 (k : Nat) (a : Int) : Option Y0_15 :=
 some ((decide (a > 2), ()), ())
def F185 : Fn := ⟨[.val ⟨false, (.int .i64), false⟩], [.val ⟨false, .bool, true⟩], fun k x => S185 k x.1⟩
theorem ok185 : FnOK Tryz.prog 185 F185 := okF [] [] (fun k => .nil) trivial Tryz.func185 rfl
abbrev c135_L2 : Cut := ⟨[0, 1, 7, 8], [.cell Y0_18, .clo 185 [], cI, cI], [], 19, []⟩
def l135_2 (k : Nat) (g2 : (List Int) → Int → Int → Option Y0_12) (a : List Int) (b c : Int) : Option Y0_12 :=
 (bif decide (c < b) then
  ix a c <|
  (S185 k (rd a c 0)).bind fun q0 =>
  (bif q0.1.1 then
   some ((c, ()), ())
  else
   g2 a b (IntKind.i64.wrap (c + 1)))
 else
  some (((-1), ()), ()))
def b135_2 (k : Nat) (g : ((Unit) × (List Int) × Unit × Int × Int × Unit) → Option Y0_12) : ((Unit) × (List Int) × Unit × Int × Int × Unit) → Option Y0_12 := fun (_, a, _, b, c, _) => l135_2 k (fun a b c => g ((), a, (), b, c, ())) a b c
def L135_2 (k a : Nat) (b : List Int) (c e : Int) : Option Y0_12 := iter (R := Y0_53 × Unit) c135_L2 (b135_2 k) a ((), b, (), c, e, ())
theorem L135_2_s (k a b c e) : L135_2 k (a + 1) b c e = l135_2 k (L135_2 k a) b c e := iter_succ _ _ _ _
def S135 (k : Nat) (a : List Int) : Option Y0_12 :=
 L135_2 k k a (a.length : Int) 0
def F135 : Fn := ⟨[.val ⟨false, Y0_18, false⟩, .pv (.clo 185 [])], [.val ⟨false, (.int .i64), true⟩], fun k x => S135 k x.1⟩
theorem ok135 : FnOK Tryz.prog 135 F135 := okF [(185, F185)] [] (fun k => (.loop 2 c135_L2 (b135_2 k) (fun g => .nil) .nil)) ⟨ok185, trivial⟩ Tryz.func135 rfl
def S161 (k : Nat) (a : List Int) : Option Y0_15 :=
 (S135 k a).bind fun q0 =>
 some ((decide (q0.1.1 ≥ 0), ()), ())
def F161 : Fn := ⟨[.val ⟨false, Y0_18, false⟩, .pv (.clo 185 [])], [.val ⟨false, .bool, true⟩], fun k x => S161 k x.1⟩
theorem ok161 : FnOK Tryz.prog 161 F161 := okF [(135, F135)] [] (fun k => .nil) ⟨ok135, trivial⟩ Tryz.func161 rfl
abbrev c158_L15 : Cut := ⟨[0, 3, 4, 6, 9, 15, 16, 17], [.cell Y0_25, .cell (.sl 288 Y0_17), .own 3 (.int .i64), .box 288 [cI, cI, cI, .cell .bool], cI, .cell (.sl 288 Y0_17), cI, cI], [], 84, []⟩
def l158_15 (k : Nat) (g4 : Y0_22) (g15 : (List Y0_7) → Y0_51 → (List Int) → Int → Int → Int → Bool → Int → Y0_51 → Int → Int → Option Y0_15) (a : List Y0_7) (b : List Y0_13) (c : List Int) (e f h : Int) (i : Bool) (l : Int) (m : List Y0_13) (n o : Int) : Option Y0_15 :=
 (bif i then
  (bif decide (l ≤ f) then
   ix c l <|
   ix c l <|
   g15 a b (upd c l (IntKind.i64.wrap ((rd c l 0) + 1))) e f h i (IntKind.i64.wrap (l + 1)) m n o
  else
   g4 a b c m n (IntKind.i64.wrap (o + 1)))
 else
  g4 a b c m n (IntKind.i64.wrap (o + 1)))
def b158_15 (k : Nat) (g4 : Y0_22) (g : ((Unit) × (List Y0_7) × Y0_51 × (List Int) × Y0_60 × Int × Y0_51 × Int × Int × Unit) → Option Y0_15) : ((Unit) × (List Y0_7) × Y0_51 × (List Int) × Y0_60 × Int × Y0_51 × Int × Int × Unit) → Option Y0_15 := fun (_, a, b, c, (e, f, h, i, _), l, m, n, o, _) => l158_15 k g4 (fun a b c e f h i l m n o => g ((), a, b, c, (e, f, h, i, ()), l, m, n, o, ())) a b c e f h i l m n o
def L158_15 (k : Nat) (g4 : Y0_22) (a : Nat) (b : List Y0_7) (c : List Y0_13) (e : List Int) (f h i : Int) (l : Bool) (m : Int) (n : List Y0_13) (o p : Int) : Option Y0_15 := iter (R := (Bool × Unit) × Unit) c158_L15 (b158_15 k g4) a ((), b, c, e, (f, h, i, l, ()), m, n, o, p, ())
theorem L158_15_s (k g4 a b c e f h i l m n o p) : L158_15 k g4 (a + 1) b c e f h i l m n o p = l158_15 k g4 (L158_15 k g4 a) b c e f h i l m n o p := iter_succ _ _ _ _
abbrev c158_L9 : Cut := ⟨[0, 3, 4, 6, 15, 16, 17, 27, 28, 29], [.cell Y0_25, .cell (.sl 288 Y0_17), .own 3 (.int .i64), .box 288 [cI, cI, cI, .cell .bool], .cell (.sl 288 Y0_17), cI, cI, .cell (.sl 288 Y0_17), cI, cI], [], 84, []⟩
def l158_9 (k : Nat) (g4 : Y0_22) (g9 : (List Y0_7) → Y0_51 → (List Int) → Int → Int → Int → Bool → Y0_51 → Int → Int → Y0_51 → Int → Int → Option Y0_15) (a : List Y0_7) (b : List Y0_13) (c : List Int) (e f h : Int) (i : Bool) (l : List Y0_13) (m n : Int) (o : List Y0_13) (p s : Int) : Option Y0_15 :=
 (bif decide (s < p) then
  ix o s <|
  (S182 k (rd o s (0, 0, 0, false)) h).bind fun q1 =>
  (bif q1.1.1 then
   (S183 k (e, f, h, i) (rd o s (0, 0, 0, false))).bind fun q2 =>
   (bif !q2.1.1 then
    some ((false, ()), ())
   else
    (S184 k (e, f, h, i) (rd o s (0, 0, 0, false))).bind fun q3 =>
    (bif !q3.1.1 then
     (S183 k (e, f, h, i) (rd o s (0, 0, 0, false))).bind fun q4 =>
     (bif !q4.1.1 then
      (S183 k (rd o s (0, 0, 0, false)) (e, f, h, i)).bind fun q5 =>
      (bif !q5.1.1 then
       some ((false, ()), ())
      else
       g9 a b c e f h i l m n o p (IntKind.i64.wrap (s + 1)))
     else
      g9 a b c e f h i l m n o p (IntKind.i64.wrap (s + 1)))
    else
     g9 a b c e f h i l m n o p (IntKind.i64.wrap (s + 1))))
  else
   (S184 k (e, f, h, i) (rd o s (0, 0, 0, false))).bind fun q6 =>
   (bif !q6.1.1 then
    (S183 k (e, f, h, i) (rd o s (0, 0, 0, false))).bind fun q7 =>
    (bif !q7.1.1 then
     (S183 k (rd o s (0, 0, 0, false)) (e, f, h, i)).bind fun q8 =>
     (bif !q8.1.1 then
      some ((false, ()), ())
     else
      g9 a b c e f h i l m n o p (IntKind.i64.wrap (s + 1)))
    else
     g9 a b c e f h i l m n o p (IntKind.i64.wrap (s + 1)))
   else
    g9 a b c e f h i l m n o p (IntKind.i64.wrap (s + 1))))
 else
  L158_15 k g4 k a b c e f h i e l m n)
def b158_9 (k : Nat) (g4 : Y0_22) (g : ((Unit) × (List Y0_7) × Y0_51 × (List Int) × Y0_60 × Y0_51 × Int × Int × Y0_51 × Int × Int × Unit) → Option Y0_15) : ((Unit) × (List Y0_7) × Y0_51 × (List Int) × Y0_60 × Y0_51 × Int × Int × Y0_51 × Int × Int × Unit) → Option Y0_15 := fun (_, a, b, c, (e, f, h, i, _), l, m, n, o, p, s, _) => l158_9 k g4 (fun a b c e f h i l m n o p s => g ((), a, b, c, (e, f, h, i, ()), l, m, n, o, p, s, ())) a b c e f h i l m n o p s
def L158_9 (k : Nat) (g4 : Y0_22) (a : Nat) (b : List Y0_7) (c : List Y0_13) (e : List Int) (f h i : Int) (l : Bool) (m : List Y0_13) (n o : Int) (p : List Y0_13) (s t : Int) : Option Y0_15 := iter (R := (Bool × Unit) × Unit) c158_L9 (b158_9 k g4) a ((), b, c, e, (f, h, i, l, ()), m, n, o, p, s, t, ())
theorem L158_9_s (k g4 a b c e f h i l m n o p s t) : L158_9 k g4 (a + 1) b c e f h i l m n o p s t = l158_9 k g4 (L158_9 k g4 a) b c e f h i l m n o p s t := iter_succ _ _ _ _
abbrev c158_L4 : Cut := ⟨[0, 3, 4, 15, 16, 17], [.cell Y0_25, .cell (.sl 288 Y0_17), .own 3 (.int .i64), .cell (.sl 288 Y0_17), cI, cI], [], 84, []⟩
def l158_4 (k : Nat) (g4 : Y0_22) (a : List Y0_7) (b : List Y0_13) (c : List Int) (e : List Y0_13) (f h : Int) : Option Y0_15 :=
 (bif decide (h < f) then
  ix e h <|
  (bif decide ((rd e h (0, 0, 0, false)).2.1 ≥ (IntKind.i64.wrap ((a.length : Int) - 1))) then
   some ((false, ()), ())
  else
   L158_9 k g4 k a b c (rd e h (0, 0, 0, false)).1 (rd e h (0, 0, 0, false)).2.1 (rd e h (0, 0, 0, false)).2.2.1 (rd e h (0, 0, 0, false)).2.2.2 e f h b (b.length : Int) 0)
 else
  (S161 k c).bind fun q9 =>
  some ((!q9.1.1, ()), ()))
def b158_4 (k : Nat) (g : ((Unit) × (List Y0_7) × Y0_51 × (List Int) × Y0_51 × Int × Int × Unit) → Option Y0_15) : ((Unit) × (List Y0_7) × Y0_51 × (List Int) × Y0_51 × Int × Int × Unit) → Option Y0_15 := fun (_, a, b, c, e, f, h, _) => l158_4 k (fun a b c e f h => g ((), a, b, c, e, f, h, ())) a b c e f h
def L158_4 (k a : Nat) (b : List Y0_7) (c : List Y0_13) (e : List Int) (f : List Y0_13) (h i : Int) : Option Y0_15 := iter (R := (Bool × Unit) × Unit) c158_L4 (b158_4 k) a ((), b, c, e, f, h, i, ())
theorem L158_4_s (k a b c e f h i) : L158_4 k (a + 1) b c e f h i = l158_4 k (L158_4 k a) b c e f h i := iter_succ _ _ _ _
def S158 (k : Nat) (a : List Y0_7) : Option Y0_15 :=
 (S181 k a).bind fun q0 =>
 mk (a.length : Int) (a.length : Int) 8 <|
 L158_4 k k a q0.1.1 (List.replicate (a.length : Int).toNat (0 : Int)) q0.1.1 (q0.1.1.length : Int) 0
def F158 : Fn := ⟨[.val ⟨false, Y0_25, false⟩], [.val ⟨false, .bool, true⟩], fun k x => S158 k x.1⟩
theorem ok158 : FnOK Tryz.prog 158 F158 := okF [(161, F161), (181, F181), (182, F182), (183, F183), (184, F184)] [] (fun k => (.loop 4 c158_L4 (b158_4 k) (fun g => (fun (g4 : Y0_22) => (.loop 15 c158_L15 (b158_15 k g4) (fun g => .nil) (.loop 9 c158_L9 (b158_9 k g4) (fun g => .nil) .nil))) (fun l_1 all around t15 t16 t17 => g ((), l_1, all, around, t15, t16, t17, ()))) .nil)) ⟨ok161, ok181, ok182, ok183, ok184, trivial⟩ Tryz.func158 rfl
abbrev c160_L6 : Cut := ⟨[0, 3, 4, 5, 11, 12, 13, 19, 20], [.cell Y0_25, .own 260 Y0_64, cI, .box 288 [cI, cI, cI, .cell .bool], .own 288 Y0_17, cI, cI, cI, cI], [], 38, []⟩
def l160_6 (k : Nat) (g3 : Y0_33) (g6 : (List Y0_7) → Y0_27 → Int → Int → Int → Int → Bool → Y0_51 → Int → Int → Int → Int → Option Y0_56) (a : List Y0_7) (b : List Y0_70) (c e f h : Int) (i : Bool) (l : List Y0_13) (m n o p : Int) : Option Y0_56 :=
 (bif decide (p < o) then
  (bif decide (c < 24) then
   (S182 k (e, f, h, i) p).bind fun q1 =>
   (bif q1.1.1 then
    ix b p <|
    ax 24 c <|
    g6 a (upd b p (aset (α := Bool) 24 (rd b p (prep (α := Bool) 24 false)) c true)) c e f h i l m n o (IntKind.i64.wrap (p + 1))
   else
    g6 a b c e f h i l m n o (IntKind.i64.wrap (p + 1)))
  else
   g6 a b c e f h i l m n o (IntKind.i64.wrap (p + 1)))
 else
  g3 a b l m (IntKind.i64.wrap (n + 1)))
def b160_6 (k : Nat) (g3 : Y0_33) (g : ((Unit) × (List Y0_7) × Y0_27 × Int × Y0_60 × Y0_51 × Int × Int × Int × Int × Unit) → Option Y0_56) : ((Unit) × (List Y0_7) × Y0_27 × Int × Y0_60 × Y0_51 × Int × Int × Int × Int × Unit) → Option Y0_56 := fun (_, a, b, c, (e, f, h, i, _), l, m, n, o, p, _) => l160_6 k g3 (fun a b c e f h i l m n o p => g ((), a, b, c, (e, f, h, i, ()), l, m, n, o, p, ())) a b c e f h i l m n o p
def L160_6 (k : Nat) (g3 : Y0_33) (a : Nat) (b : List Y0_7) (c : List Y0_70) (e f h i : Int) (l : Bool) (m : List Y0_13) (n o p s : Int) : Option Y0_56 := iter (R := (Y0_27 × Unit) × Unit) c160_L6 (b160_6 k g3) a ((), b, c, e, (f, h, i, l, ()), m, n, o, p, s, ())
theorem L160_6_s (k g3 a b c e f h i l m n o p s) : L160_6 k g3 (a + 1) b c e f h i l m n o p s = l160_6 k g3 (L160_6 k g3 a) b c e f h i l m n o p s := iter_succ _ _ _ _
abbrev c160_L3 : Cut := ⟨[0, 3, 11, 12, 13], [.cell Y0_25, .own 260 Y0_64, .own 288 Y0_17, cI, cI], [], 38, []⟩
def l160_3 (k : Nat) (g3 : Y0_33) (a : List Y0_7) (b : List Y0_70) (c : List Y0_13) (e f : Int) : Option Y0_56 :=
 (bif decide (f < e) then
  ix c f <|
  L160_6 k g3 k a b f (rd c f (0, 0, 0, false)).1 (rd c f (0, 0, 0, false)).2.1 (rd c f (0, 0, 0, false)).2.2.1 (rd c f (0, 0, 0, false)).2.2.2 c e f (a.length : Int) 0
 else
  some ((b, ()), ()))
def b160_3 (k : Nat) (g : ((Unit) × (List Y0_7) × Y0_27 × Y0_51 × Int × Int × Unit) → Option Y0_56) : ((Unit) × (List Y0_7) × Y0_27 × Y0_51 × Int × Int × Unit) → Option Y0_56 := fun (_, a, b, c, e, f, _) => l160_3 k (fun a b c e f => g ((), a, b, c, e, f, ())) a b c e f
def L160_3 (k a : Nat) (b : List Y0_7) (c : List Y0_70) (e : List Y0_13) (f h : Int) : Option Y0_56 := iter (R := (Y0_27 × Unit) × Unit) c160_L3 (b160_3 k) a ((), b, c, e, f, h, ())
theorem L160_3_s (k a b c e f h) : L160_3 k (a + 1) b c e f h = l160_3 k (L160_3 k a) b c e f h := iter_succ _ _ _ _
def S160 (k : Nat) (a : List Y0_7) : Option Y0_56 :=
 mk (a.length : Int) (a.length : Int) 24 <|
 (S181 k a).bind fun q0 =>
 L160_3 k k a (List.replicate (a.length : Int).toNat (prep (α := Bool) 24 false : PN Bool 24)) q0.1.1 (q0.1.1.length : Int) 0
def F160 : Fn := ⟨[.val ⟨false, Y0_25, false⟩], [.val ⟨false, (.sl 260 Y0_64), true⟩], fun k x => S160 k x.1⟩
theorem ok160 : FnOK Tryz.prog 160 F160 := okF [(181, F181), (182, F182)] [] (fun k => (.loop 3 c160_L3 (b160_3 k) (fun g => (fun (g3 : Y0_33) => (.loop 6 c160_L6 (b160_6 k g3) (fun g => .nil) .nil)) (fun l_1 out t11 t12 t13 => g ((), l_1, out, t11, t12, t13, ()))) .nil)) ⟨ok181, ok182, trivial⟩ Tryz.func160 rfl
def S186 (k : Nat) (a : Int) (b : List Y0_7) (c : Int) : Option Y0_15 :=
 ix b a <|
 ix b c <|
 some (((rd b a (0, 0, 0, 0)).2.1 == (rd b c (0, 0, 0, 0)).2.1, ()), ())
def F186 : Fn := ⟨[.val ⟨false, (.int .i64), false⟩, .pv (.ref Y0_25), .pv (.ref (.int .i64))], [.val ⟨false, .bool, true⟩], fun k (a, b, c, _) => S186 k a b c⟩
theorem ok186 : FnOK Tryz.prog 186 F186 := okF [] [] (fun k => .nil) trivial Tryz.func186 rfl
abbrev c135a_L2 : Cut := ⟨[0, 1, 7, 8], [.cell Y0_18, .clo 186 [.ref Y0_25, .ref (.int .i64)], cI, cI], [], 19, []⟩
def l135a_2 (k : Nat) (g2 : (List Int) → (List Y0_7) → Int → Int → Int → Option Y0_12) (a : List Int) (b : List Y0_7) (c e f : Int) : Option Y0_12 :=
 (bif decide (f < e) then
  ix a f <|
  (S186 k (rd a f 0) b c).bind fun q0 =>
  (bif q0.1.1 then
   some ((f, ()), ())
  else
   g2 a b c e (IntKind.i64.wrap (f + 1)))
 else
  some (((-1), ()), ()))
def b135a_2 (k : Nat) (g : ((Unit) × (List Int) × ((List Y0_7) × Int × Unit) × Int × Int × Unit) → Option Y0_12) : ((Unit) × (List Int) × ((List Y0_7) × Int × Unit) × Int × Int × Unit) → Option Y0_12 := fun (_, a, (b, c, _), e, f, _) => l135a_2 k (fun a b c e f => g ((), a, (b, c, ()), e, f, ())) a b c e f
def L135a_2 (k a : Nat) (b : List Int) (c : List Y0_7) (e f h : Int) : Option Y0_12 := iter (R := Y0_53 × Unit) c135a_L2 (b135a_2 k) a ((), b, (c, e, ()), f, h, ())
theorem L135a_2_s (k a b c e f h) : L135a_2 k (a + 1) b c e f h = l135a_2 k (L135a_2 k a) b c e f h := iter_succ _ _ _ _
def S135a (k : Nat) (a : List Int) (b : List Y0_7) (c : Int) : Option Y0_12 :=
 L135a_2 k k a b c (a.length : Int) 0
def F135a : Fn := ⟨[.val ⟨false, Y0_18, false⟩, .pv (.clo 186 [.ref Y0_25, .ref (.int .i64)])], [.val ⟨false, (.int .i64), true⟩], fun k (a, (b, c, _), _) => S135a k a b c⟩
theorem ok135a : FnOK Tryz.prog 135 F135a := okF [(186, F186)] [] (fun k => (.loop 2 c135a_L2 (b135a_2 k) (fun g => .nil) .nil)) ⟨ok186, trivial⟩ Tryz.func135 rfl
def S161a (k : Nat) (a : List Int) (b : List Y0_7) (c : Int) : Option Y0_15 :=
 (S135a k a b c).bind fun q0 =>
 some ((decide (q0.1.1 ≥ 0), ()), ())
def F161a : Fn := ⟨[.val ⟨false, Y0_18, false⟩, .pv (.clo 186 [.ref Y0_25, .ref (.int .i64)])], [.val ⟨false, .bool, true⟩], fun k (a, (b, c, _), _) => S161a k a b c⟩
theorem ok161a : FnOK Tryz.prog 161 F161a := okF [(135, F135a)] [] (fun k => .nil) ⟨ok135a, trivial⟩ Tryz.func161 rfl
abbrev c159_J8 : Cut := ⟨[1, 4, 5, 6, 7, 8, 9, 20, 21, 22], [.box 25 [.cell Y0_25], .own 3 (.int .i64), .own 3 (.int .i64), .mp 290 true Y0_64 false (.int .i64), .cell (.sl 260 Y0_64), .box 3 [cI], .box 260 [.cell .bool, .cell .bool, .cell .bool, .cell .bool, .cell .bool, .cell .bool, .cell .bool, .cell .bool, .cell .bool, .cell .bool, .cell .bool, .cell .bool, .cell .bool, .cell .bool, .cell .bool, .cell .bool, .cell .bool, .cell .bool, .cell .bool, .cell .bool, .cell .bool, .cell .bool, .cell .bool, .cell .bool], .cell (.sl 260 Y0_64), cI, cI], [], 110, []⟩
def j159_8 (k : Nat) (g3 : Y0_37) (a : List Y0_7) (b c : List Int) (e : List (Y0_70 × Int)) (f : List Y0_70) (h : Int) (x i l m n o p s t u v w y z A B C D G H I J K M : Bool) (N : List Y0_70) (O P : Int) : Option Y0_59 :=
 ix a h <|
 (bif (rd a h (0, 0, 0, 0)).1 == 9 then
  (bif decide ((c.length : Int) ≥ 2) then
   some (([], false, ()), ())
  else
   (S161a k c a h).bind fun q1 =>
   (bif q1.1.1 then
    some (([], false, ()), ())
   else
    ap c ([h] : List Int) 8 fun r2 =>
    g3 a b r2 e f N O (IntKind.i64.wrap (P + 1))))
 else
  (bif (rd a h (0, 0, 0, 0)).1 == 10 then
   (bif decide ((IntKind.i64.wrap ((c.length : Int) - 1)) < 0) then
    some (([], false, ()), ())
   else
    ix c (IntKind.i64.wrap ((c.length : Int) - 1)) <|
    ix a (rd c (IntKind.i64.wrap ((c.length : Int) - 1)) 0) <|
    ix a h <|
    (bif (rd a (rd c (IntKind.i64.wrap ((c.length : Int) - 1)) 0) (0, 0, 0, 0)).2.1 != (rd a h (0, 0, 0, 0)).2.1 then
     some (([], false, ()), ())
    else
     ix c (IntKind.i64.wrap ((c.length : Int) - 1)) <|
     ix f (rd c (IntKind.i64.wrap ((c.length : Int) - 1)) 0) <|
     (bif (mget Y0_64 (.int .i64) (rd f (rd c (IntKind.i64.wrap ((c.length : Int) - 1)) 0) (prep (α := Bool) 24 false)) e 0) != (mget Y0_64 (.int .i64) (x, i, l, m, n, o, p, s, t, u, v, w, y, z, A, B, C, D, G, H, I, J, K, M) e 0) then
      some (([], false, ()), ())
     else
      ix c (IntKind.i64.wrap ((c.length : Int) - 1)) <|
      ix b (rd c (IntKind.i64.wrap ((c.length : Int) - 1)) 0) <|
      sx c 0 (IntKind.i64.wrap ((c.length : Int) - 1)) <|
      g3 a (upd b (rd c (IntKind.i64.wrap ((c.length : Int) - 1)) 0) h) (c.take (IntKind.i64.wrap ((c.length : Int) - 1)).toNat) e f N O (IntKind.i64.wrap (P + 1)))))
  else
   g3 a b c e f N O (IntKind.i64.wrap (P + 1))))
abbrev c159_L3 : Cut := ⟨[1, 4, 5, 6, 7, 20, 21, 22], [.box 25 [.cell Y0_25], .own 3 (.int .i64), .own 3 (.int .i64), .mp 290 true Y0_64 false (.int .i64), .cell (.sl 260 Y0_64), .cell (.sl 260 Y0_64), cI, cI], [], 110, []⟩
def l159_3 (k : Nat) (g3 : Y0_37) (a : List Y0_7) (b c : List Int) (e : List (Y0_70 × Int)) (f h : List Y0_70) (i l : Int) : Option Y0_59 :=
 (bif decide (l < i) then
  ix h l <|
  (bif !(mhas Y0_64 (.int .i64) (rd h l (prep (α := Bool) 24 false)) e) then
   j159_8 k g3 a b c (updD Y0_64 (.int .i64) (rd h l (prep (α := Bool) 24 false)) l e) f l (rd h l (prep (α := Bool) 24 false)).1 (rd h l (prep (α := Bool) 24 false)).2.1 (rd h l (prep (α := Bool) 24 false)).2.2.1 (rd h l (prep (α := Bool) 24 false)).2.2.2.1 (rd h l (prep (α := Bool) 24 false)).2.2.2.2.1 (rd h l (prep (α := Bool) 24 false)).2.2.2.2.2.1 (rd h l (prep (α := Bool) 24 false)).2.2.2.2.2.2.1 (rd h l (prep (α := Bool) 24 false)).2.2.2.2.2.2.2.1 (rd h l (prep (α := Bool) 24 false)).2.2.2.2.2.2.2.2.1 (rd h l (prep (α := Bool) 24 false)).2.2.2.2.2.2.2.2.2.1 (rd h l (prep (α := Bool) 24 false)).2.2.2.2.2.2.2.2.2.2.1 (rd h l (prep (α := Bool) 24 false)).2.2.2.2.2.2.2.2.2.2.2.1 (rd h l (prep (α := Bool) 24 false)).2.2.2.2.2.2.2.2.2.2.2.2.1 (rd h l (prep (α := Bool) 24 false)).2.2.2.2.2.2.2.2.2.2.2.2.2.1 (rd h l (prep (α := Bool) 24 false)).2.2.2.2.2.2.2.2.2.2.2.2.2.2.1 (rd h l (prep (α := Bool) 24 false)).2.2.2.2.2.2.2.2.2.2.2.2.2.2.2.1 (rd h l (prep (α := Bool) 24 false)).2.2.2.2.2.2.2.2.2.2.2.2.2.2.2.2.1 (rd h l (prep (α := Bool) 24 false)).2.2.2.2.2.2.2.2.2.2.2.2.2.2.2.2.2.1 (rd h l (prep (α := Bool) 24 false)).2.2.2.2.2.2.2.2.2.2.2.2.2.2.2.2.2.2.1 (rd h l (prep (α := Bool) 24 false)).2.2.2.2.2.2.2.2.2.2.2.2.2.2.2.2.2.2.2.1 (rd h l (prep (α := Bool) 24 false)).2.2.2.2.2.2.2.2.2.2.2.2.2.2.2.2.2.2.2.2.1 (rd h l (prep (α := Bool) 24 false)).2.2.2.2.2.2.2.2.2.2.2.2.2.2.2.2.2.2.2.2.2.1 (rd h l (prep (α := Bool) 24 false)).2.2.2.2.2.2.2.2.2.2.2.2.2.2.2.2.2.2.2.2.2.2.1 (rd h l (prep (α := Bool) 24 false)).2.2.2.2.2.2.2.2.2.2.2.2.2.2.2.2.2.2.2.2.2.2.2 h i l
  else
   j159_8 k g3 a b c e f l (rd h l (prep (α := Bool) 24 false)).1 (rd h l (prep (α := Bool) 24 false)).2.1 (rd h l (prep (α := Bool) 24 false)).2.2.1 (rd h l (prep (α := Bool) 24 false)).2.2.2.1 (rd h l (prep (α := Bool) 24 false)).2.2.2.2.1 (rd h l (prep (α := Bool) 24 false)).2.2.2.2.2.1 (rd h l (prep (α := Bool) 24 false)).2.2.2.2.2.2.1 (rd h l (prep (α := Bool) 24 false)).2.2.2.2.2.2.2.1 (rd h l (prep (α := Bool) 24 false)).2.2.2.2.2.2.2.2.1 (rd h l (prep (α := Bool) 24 false)).2.2.2.2.2.2.2.2.2.1 (rd h l (prep (α := Bool) 24 false)).2.2.2.2.2.2.2.2.2.2.1 (rd h l (prep (α := Bool) 24 false)).2.2.2.2.2.2.2.2.2.2.2.1 (rd h l (prep (α := Bool) 24 false)).2.2.2.2.2.2.2.2.2.2.2.2.1 (rd h l (prep (α := Bool) 24 false)).2.2.2.2.2.2.2.2.2.2.2.2.2.1 (rd h l (prep (α := Bool) 24 false)).2.2.2.2.2.2.2.2.2.2.2.2.2.2.1 (rd h l (prep (α := Bool) 24 false)).2.2.2.2.2.2.2.2.2.2.2.2.2.2.2.1 (rd h l (prep (α := Bool) 24 false)).2.2.2.2.2.2.2.2.2.2.2.2.2.2.2.2.1 (rd h l (prep (α := Bool) 24 false)).2.2.2.2.2.2.2.2.2.2.2.2.2.2.2.2.2.1 (rd h l (prep (α := Bool) 24 false)).2.2.2.2.2.2.2.2.2.2.2.2.2.2.2.2.2.2.1 (rd h l (prep (α := Bool) 24 false)).2.2.2.2.2.2.2.2.2.2.2.2.2.2.2.2.2.2.2.1 (rd h l (prep (α := Bool) 24 false)).2.2.2.2.2.2.2.2.2.2.2.2.2.2.2.2.2.2.2.2.1 (rd h l (prep (α := Bool) 24 false)).2.2.2.2.2.2.2.2.2.2.2.2.2.2.2.2.2.2.2.2.2.1 (rd h l (prep (α := Bool) 24 false)).2.2.2.2.2.2.2.2.2.2.2.2.2.2.2.2.2.2.2.2.2.2.1 (rd h l (prep (α := Bool) 24 false)).2.2.2.2.2.2.2.2.2.2.2.2.2.2.2.2.2.2.2.2.2.2.2 h i l)
 else
  (bif decide ((c.length : Int) > 0) then
   some (([], false, ()), ())
  else
   some ((b, true, ()), ())))
def b159_3 (k : Nat) (g : ((Unit) × ((List Y0_7) × Unit) × (List Int) × (List Int) × (List (Y0_70 × Int)) × Y0_27 × Y0_27 × Int × Int × Unit) → Option Y0_59) : ((Unit) × ((List Y0_7) × Unit) × (List Int) × (List Int) × (List (Y0_70 × Int)) × Y0_27 × Y0_27 × Int × Int × Unit) → Option Y0_59 := fun (_, (a, _), b, c, e, f, h, i, l, _) => l159_3 k (fun a b c e f h i l => g ((), (a, ()), b, c, e, f, h, i, l, ())) a b c e f h i l
def L159_3 (k a : Nat) (b : List Y0_7) (c e : List Int) (f : List (Y0_70 × Int)) (h i : List Y0_70) (l m : Int) : Option Y0_59 := iter (R := ((List Int) × Bool × Unit) × Unit) c159_L3 (b159_3 k) a ((), (b, ()), c, e, f, h, i, l, m, ())
theorem L159_3_s (k a b c e f h i l m) : L159_3 k (a + 1) b c e f h i l m = l159_3 k (L159_3 k a) b c e f h i l m := iter_succ _ _ _ _
def S159 (k : Nat) (a : List Y0_7) : Option Y0_59 :=
 mk (a.length : Int) (a.length : Int) 8 <|
 (S160 k a).bind fun q0 =>
 L159_3 k k a (List.replicate (a.length : Int).toNat (0 : Int)) ([] : List Int) ([] : List (Y0_70 × Int)) q0.1.1 q0.1.1 (q0.1.1.length : Int) 0
def F159 : Fn := ⟨[.val ⟨false, Y0_25, false⟩], [.val ⟨false, Y0_18, true⟩, .val ⟨false, .bool, true⟩], fun k x => S159 k x.1⟩
theorem ok159 : FnOK Tryz.prog 159 F159 := okF [(160, F160), (161, F161a)] [(104, 1)] (fun k => (.loop 3 c159_L3 (b159_3 k) (fun g => (fun (g3 : Y0_37) => (.join 8 c159_J8 (fun d => j159_8 k g3 d.2.1.1 d.2.2.1 d.2.2.2.1 d.2.2.2.2.1 d.2.2.2.2.2.1 d.2.2.2.2.2.2.1.1 d.2.2.2.2.2.2.2.1.1 d.2.2.2.2.2.2.2.1.2.1 d.2.2.2.2.2.2.2.1.2.2.1 d.2.2.2.2.2.2.2.1.2.2.2.1 d.2.2.2.2.2.2.2.1.2.2.2.2.1 d.2.2.2.2.2.2.2.1.2.2.2.2.2.1 d.2.2.2.2.2.2.2.1.2.2.2.2.2.2.1 d.2.2.2.2.2.2.2.1.2.2.2.2.2.2.2.1 d.2.2.2.2.2.2.2.1.2.2.2.2.2.2.2.2.1 d.2.2.2.2.2.2.2.1.2.2.2.2.2.2.2.2.2.1 d.2.2.2.2.2.2.2.1.2.2.2.2.2.2.2.2.2.2.1 d.2.2.2.2.2.2.2.1.2.2.2.2.2.2.2.2.2.2.2.1 d.2.2.2.2.2.2.2.1.2.2.2.2.2.2.2.2.2.2.2.2.1 d.2.2.2.2.2.2.2.1.2.2.2.2.2.2.2.2.2.2.2.2.2.1 d.2.2.2.2.2.2.2.1.2.2.2.2.2.2.2.2.2.2.2.2.2.2.1 d.2.2.2.2.2.2.2.1.2.2.2.2.2.2.2.2.2.2.2.2.2.2.2.1 d.2.2.2.2.2.2.2.1.2.2.2.2.2.2.2.2.2.2.2.2.2.2.2.2.1 d.2.2.2.2.2.2.2.1.2.2.2.2.2.2.2.2.2.2.2.2.2.2.2.2.2.1 d.2.2.2.2.2.2.2.1.2.2.2.2.2.2.2.2.2.2.2.2.2.2.2.2.2.2.1 d.2.2.2.2.2.2.2.1.2.2.2.2.2.2.2.2.2.2.2.2.2.2.2.2.2.2.2.1 d.2.2.2.2.2.2.2.1.2.2.2.2.2.2.2.2.2.2.2.2.2.2.2.2.2.2.2.2.1 d.2.2.2.2.2.2.2.1.2.2.2.2.2.2.2.2.2.2.2.2.2.2.2.2.2.2.2.2.2.1 d.2.2.2.2.2.2.2.1.2.2.2.2.2.2.2.2.2.2.2.2.2.2.2.2.2.2.2.2.2.2.1 d.2.2.2.2.2.2.2.1.2.2.2.2.2.2.2.2.2.2.2.2.2.2.2.2.2.2.2.2.2.2.2.1 d.2.2.2.2.2.2.2.2.1 d.2.2.2.2.2.2.2.2.2.1 d.2.2.2.2.2.2.2.2.2.2.1) .nil)) (fun l_1 out open_ same all t20 t21 t22 => g ((), (l_1, ()), out, open_, same, all, t20, t21, t22, ()))) .nil)) ⟨ok160, ok161a, trivial⟩ Tryz.func159 rfl
def S162 (k : Nat) (a b : Int) : Option Y0_15 :=
 some ((decide (a > b), ()), ())
def F162 : Fn := ⟨[.val ⟨false, (.int .i64), false⟩, .pv (.ref (.int .i64))], [.val ⟨false, .bool, true⟩], fun k x => S162 k x.1 x.2.1⟩
theorem ok162 : FnOK Tryz.prog 162 F162 := okF [] [] (fun k => .nil) trivial Tryz.func162 rfl
abbrev c135b_L2 : Cut := ⟨[0, 1, 7, 8], [.cell Y0_18, .clo 162 [.ref (.int .i64)], cI, cI], [], 19, []⟩
def l135b_2 (k : Nat) (g2 : (List Int) → Int → Int → Int → Option Y0_12) (a : List Int) (b c e : Int) : Option Y0_12 :=
 (bif decide (e < c) then
  ix a e <|
  (S162 k (rd a e 0) b).bind fun q0 =>
  (bif q0.1.1 then
   some ((e, ()), ())
  else
   g2 a b c (IntKind.i64.wrap (e + 1)))
 else
  some (((-1), ()), ()))
def b135b_2 (k : Nat) (g : ((Unit) × (List Int) × Y0_53 × Int × Int × Unit) → Option Y0_12) : ((Unit) × (List Int) × Y0_53 × Int × Int × Unit) → Option Y0_12 := fun (_, a, (b, _), c, e, _) => l135b_2 k (fun a b c e => g ((), a, (b, ()), c, e, ())) a b c e
def L135b_2 (k a : Nat) (b : List Int) (c e f : Int) : Option Y0_12 := iter (R := Y0_53 × Unit) c135b_L2 (b135b_2 k) a ((), b, (c, ()), e, f, ())
theorem L135b_2_s (k a b c e f) : L135b_2 k (a + 1) b c e f = l135b_2 k (L135b_2 k a) b c e f := iter_succ _ _ _ _
def S135b (k : Nat) (a : List Int) (b : Int) : Option Y0_12 :=
 L135b_2 k k a b (a.length : Int) 0
def F135b : Fn := ⟨[.val ⟨false, Y0_18, false⟩, .pv (.clo 162 [.ref (.int .i64)])], [.val ⟨false, (.int .i64), true⟩], fun k x => S135b k x.1 x.2.1.1⟩
theorem ok135b : FnOK Tryz.prog 135 F135b := okF [(162, F162)] [] (fun k => (.loop 2 c135b_L2 (b135b_2 k) (fun g => .nil) .nil)) ⟨ok162, trivial⟩ Tryz.func135 rfl
def S161b (k : Nat) (a : List Int) (b : Int) : Option Y0_15 :=
 (S135b k a b).bind fun q0 =>
 some ((decide (q0.1.1 ≥ 0), ()), ())
def F161b : Fn := ⟨[.val ⟨false, Y0_18, false⟩, .pv (.clo 162 [.ref (.int .i64)])], [.val ⟨false, .bool, true⟩], fun k x => S161b k x.1 x.2.1.1⟩
theorem ok161b : FnOK Tryz.prog 161 F161b := okF [(135, F135b)] [] (fun k => .nil) ⟨ok135b, trivial⟩ Tryz.func161 rfl
abbrev c113_L11 : Cut := ⟨[4, 6, 42, 43, 44], [.own 3 (.int .i64), .own 260 Y0_64, .cell Y0_25, cI, cI], [], 66, []⟩
def l113_11 (k : Nat) (g11 : (List Int) → Y0_27 → (List Y0_7) → Int → Int → Option Y0_15) (a : List Int) (b : List Y0_70) (c : List Y0_7) (e f : Int) : Option Y0_15 :=
 (bif decide (f < e) then
  ix c f <|
  (bif (rd c f (0, 0, 0, 0)).1 != 11 then
   g11 a b c e (IntKind.i64.wrap (f + 1))
  else
   ix b f <|
   (bif !(beqD Y0_64 (rd b f (prep (α := Bool) 24 false)) (false, false, false, false, false, false, false, false, false, false, false, false, false, false, false, false, false, false, false, false, false, false, false, false)) then
    some ((false, ()), ())
   else
    sx a 0 f <|
    (S161b k (sub a 0 f) f).bind fun q5 =>
    (bif q5.1.1 then
     some ((false, ()), ())
    else
     g11 a b c e (IntKind.i64.wrap (f + 1)))))
 else
  some ((true, ()), ()))
def b113_11 (k : Nat) (g : ((Unit) × (List Int) × Y0_27 × (List Y0_7) × Int × Int × Unit) → Option Y0_15) : ((Unit) × (List Int) × Y0_27 × (List Y0_7) × Int × Int × Unit) → Option Y0_15 := fun (_, a, b, c, e, f, _) => l113_11 k (fun a b c e f => g ((), a, b, c, e, f, ())) a b c e f
def L113_11 (k a : Nat) (b : List Int) (c : List Y0_70) (e : List Y0_7) (f h : Int) : Option Y0_15 := iter (R := (Bool × Unit) × Unit) c113_L11 (b113_11 k) a ((), b, c, e, f, h, ())
theorem L113_11_s (k a b c e f h) : L113_11 k (a + 1) b c e f h = l113_11 k (L113_11 k a) b c e f h := iter_succ _ _ _ _
def S113 (k : Nat) (a : List Y0_7) : Option Y0_15 :=
 (bif decide ((a.length : Int) < 1) then
  some ((false, ()), ())
 else
  (bif decide ((a.length : Int) > 24) then
   some ((false, ()), ())
  else
   (S83 k a).bind fun q0 =>
   (bif q0.1.1 then
    some ((false, ()), ())
   else
    (S125a k a).bind fun q1 =>
    (bif q1.1.1 != (IntKind.i64.wrap ((a.length : Int) - 1)) then
     some ((false, ()), ())
    else
     (S158 k a).bind fun q2 =>
     (bif !q2.1.1 then
      some ((false, ()), ())
     else
      (S159 k a).bind fun q3 =>
      (bif !q3.1.2.1 then
       some ((false, ()), ())
      else
       (S160 k a).bind fun q4 =>
       L113_11 k k q3.1.1 q4.1.1 a (a.length : Int) 0))))))
def F113 : Fn := ⟨[.val ⟨false, Y0_25, false⟩], [.val ⟨false, .bool, true⟩], fun k x => S113 k x.1⟩
theorem ok113 : FnOK Tryz.prog 113 F113 := okF [(83, F83), (125, F125a), (158, F158), (159, F159), (160, F160), (161, F161b)] [] (fun k => (.loop 11 c113_L11 (b113_11 k) (fun g => .nil) .nil)) ⟨ok83, ok125a, ok158, ok159, ok160, ok161b, trivial⟩ Tryz.func113 rfl
def S114 (k : Nat) (a : List Y0_7) : Option Y0_15 :=
 (bif (a.length : Int) == 0 then
  some ((true, ()), ())
 else
  (S113 k a).bind fun q0 =>
  some ((q0.1.1, ()), ()))
def F114 : Fn := ⟨[.val ⟨false, Y0_25, false⟩], [.val ⟨false, .bool, true⟩], fun k x => S114 k x.1⟩
theorem ok114 : FnOK Tryz.prog 114 F114 := okF [(113, F113)] [] (fun k => .nil) ⟨ok113, trivial⟩ Tryz.func114 rfl
def S163 (k : Nat) (a : Int × Int × Int × Int) : Option Y0_15 :=
 some ((a.1 == 9, ()), ())
def F163 : Fn := ⟨[.val ⟨true, Y0_6, false⟩], [.val ⟨false, .bool, true⟩], fun k x => S163 k x.1⟩
theorem ok163 : FnOK Tryz.prog 163 F163 := okF [] [] (fun k => .nil) trivial Tryz.func163 rfl
abbrev c125b_L2 : Cut := ⟨[0, 1, 7, 8], [.cell Y0_25, .clo 163 [], cI, cI], [], 19, []⟩
def l125b_2 (k : Nat) (g2 : (List Y0_7) → Int → Int → Option Y0_12) (a : List Y0_7) (b c : Int) : Option Y0_12 :=
 (bif decide (c < b) then
  ix a c <|
  (S163 k (rd a c (0, 0, 0, 0))).bind fun q0 =>
  (bif q0.1.1 then
   some ((c, ()), ())
  else
   g2 a b (IntKind.i64.wrap (c + 1)))
 else
  some (((-1), ()), ()))
def b125b_2 (k : Nat) (g : Y0_63) : ((Unit) × (List Y0_7) × Unit × Int × Int × Unit) → Option Y0_12 := fun (_, a, _, b, c, _) => l125b_2 k (fun a b c => g ((), a, (), b, c, ())) a b c
def L125b_2 (k a : Nat) (b : List Y0_7) (c e : Int) : Option Y0_12 := iter (R := Y0_53 × Unit) c125b_L2 (b125b_2 k) a ((), b, (), c, e, ())
theorem L125b_2_s (k a b c e) : L125b_2 k (a + 1) b c e = l125b_2 k (L125b_2 k a) b c e := iter_succ _ _ _ _
def S125b (k : Nat) (a : List Y0_7) : Option Y0_12 :=
 L125b_2 k k a (a.length : Int) 0
def F125b : Fn := ⟨[.val ⟨false, Y0_25, false⟩, .pv (.clo 163 [])], [.val ⟨false, (.int .i64), true⟩], fun k x => S125b k x.1⟩
theorem ok125b : FnOK Tryz.prog 125 F125b := okF [(163, F163)] [] (fun k => (.loop 2 c125b_L2 (b125b_2 k) (fun g => .nil) .nil)) ⟨ok163, trivial⟩ Tryz.func125 rfl
def S83a (k : Nat) (a : List Y0_7) : Option Y0_15 :=
 (S125b k a).bind fun q0 =>
 some ((decide (q0.1.1 ≥ 0), ()), ())
def F83a : Fn := ⟨[.val ⟨false, Y0_25, false⟩, .pv (.clo 163 [])], [.val ⟨false, .bool, true⟩], fun k x => S83a k x.1⟩
theorem ok83a : FnOK Tryz.prog 83 F83a := okF [(125, F125b)] [] (fun k => .nil) ⟨ok125b, trivial⟩ Tryz.func83 rfl
def S115 (k : Nat) (a : List Y0_7) : Option Y0_15 :=
 (S83a k a).bind fun q0 =>
 some ((q0.1.1, ()), ())
def F115 : Fn := ⟨[.val ⟨false, Y0_25, false⟩], [.val ⟨false, .bool, true⟩], fun k x => S115 k x.1⟩
theorem ok115 : FnOK Tryz.prog 115 F115 := okF [(83, F83a)] [] (fun k => .nil) ⟨ok83a, trivial⟩ Tryz.func115 rfl
def S195 (k : Nat) (a : Int) : Option Y0_12 :=
 (bif decide (a < 0) then
  some ((IntKind.u64.wrap (0 - (IntKind.u64.wrap a)), ()), ())
 else
  some ((IntKind.u64.wrap a, ()), ()))
def F195 : Fn := ⟨[.val ⟨false, (.int .i64), false⟩], [.val ⟨false, (.int .u64), true⟩], fun k x => S195 k x.1⟩
theorem ok195 : FnOK Tryz.prog 195 F195 := okF [] [] (fun k => .nil) trivial Tryz.func195 rfl
def S194 (k : Nat) (a b : Int) : Option Y0_34 :=
 (bif decide ((ishr .u64 a 32) > 0) then
  (bif decide ((ishr .u64 b 32) > 0) then
   some ((0, false, ()), ())
  else
   (bif decide ((ishr .u64 (ior .u64 (IntKind.u64.wrap ((ishr .u64 a 32) * (IntKind.u64.wrap (IntKind.u32.wrap b)))) (IntKind.u64.wrap ((IntKind.u64.wrap (IntKind.u32.wrap a)) * (ishr .u64 b 32)))) 32) > 0) then
    some ((0, false, ()), ())
   else
    some ((IntKind.u64.wrap ((IntKind.u64.wrap ((IntKind.u64.wrap (IntKind.u32.wrap a)) * (IntKind.u64.wrap (IntKind.u32.wrap b)))) + (ishl .u64 (ior .u64 (IntKind.u64.wrap ((ishr .u64 a 32) * (IntKind.u64.wrap (IntKind.u32.wrap b)))) (IntKind.u64.wrap ((IntKind.u64.wrap (IntKind.u32.wrap a)) * (ishr .u64 b 32)))) 32)), decide ((IntKind.u64.wrap ((IntKind.u64.wrap ((IntKind.u64.wrap (IntKind.u32.wrap a)) * (IntKind.u64.wrap (IntKind.u32.wrap b)))) + (ishl .u64 (ior .u64 (IntKind.u64.wrap ((ishr .u64 a 32) * (IntKind.u64.wrap (IntKind.u32.wrap b)))) (IntKind.u64.wrap ((IntKind.u64.wrap (IntKind.u32.wrap a)) * (ishr .u64 b 32)))) 32))) ≥ (IntKind.u64.wrap ((IntKind.u64.wrap (IntKind.u32.wrap a)) * (IntKind.u64.wrap (IntKind.u32.wrap b))))), ()), ())))
 else
  (bif decide ((ishr .u64 (ior .u64 (IntKind.u64.wrap ((ishr .u64 a 32) * (IntKind.u64.wrap (IntKind.u32.wrap b)))) (IntKind.u64.wrap ((IntKind.u64.wrap (IntKind.u32.wrap a)) * (ishr .u64 b 32)))) 32) > 0) then
   some ((0, false, ()), ())
  else
   some ((IntKind.u64.wrap ((IntKind.u64.wrap ((IntKind.u64.wrap (IntKind.u32.wrap a)) * (IntKind.u64.wrap (IntKind.u32.wrap b)))) + (ishl .u64 (ior .u64 (IntKind.u64.wrap ((ishr .u64 a 32) * (IntKind.u64.wrap (IntKind.u32.wrap b)))) (IntKind.u64.wrap ((IntKind.u64.wrap (IntKind.u32.wrap a)) * (ishr .u64 b 32)))) 32)), decide ((IntKind.u64.wrap ((IntKind.u64.wrap ((IntKind.u64.wrap (IntKind.u32.wrap a)) * (IntKind.u64.wrap (IntKind.u32.wrap b)))) + (ishl .u64 (ior .u64 (IntKind.u64.wrap ((ishr .u64 a 32) * (IntKind.u64.wrap (IntKind.u32.wrap b)))) (IntKind.u64.wrap ((IntKind.u64.wrap (IntKind.u32.wrap a)) * (ishr .u64 b 32)))) 32))) ≥ (IntKind.u64.wrap ((IntKind.u64.wrap (IntKind.u32.wrap a)) * (IntKind.u64.wrap (IntKind.u32.wrap b))))), ()), ())))
def F194 : Fn := ⟨[.val ⟨false, (.int .u64), false⟩, .val ⟨false, (.int .u64), false⟩], [.val ⟨false, (.int .u64), true⟩, .val ⟨false, .bool, true⟩], fun k x => S194 k x.1 x.2.1⟩
theorem ok194 : FnOK Tryz.prog 194 F194 := okF [] [] (fun k => .nil) trivial Tryz.func194 rfl
def S196 (k : Nat) (a : Bool) : Option Y0_34 :=
 (bif a then
  some (((-9223372036854775808), false, ()), ())
 else
  some ((9223372036854775807, false, ()), ()))
def F196 : Fn := ⟨[.val ⟨false, .bool, false⟩], [.val ⟨false, (.int .i64), true⟩, .val ⟨false, .bool, true⟩], fun k x => S196 k x.1⟩
theorem ok196 : FnOK Tryz.prog 196 F196 := okF [] [] (fun k => .nil) trivial Tryz.func196 rfl
abbrev c190_J5 : Cut := ⟨[0, 1, 6, 7], [cI, cI, .cell .bool, .cell (.int .u64)], [], 45, []⟩
def j190_5 (k : Nat) (a b : Int) (c : Bool) (e : Int) : Option Y0_34 :=
 (S195 k a).bind fun q0 =>
 (S195 k b).bind fun q1 =>
 (S194 k q0.1.1 q1.1.1).bind fun q2 =>
 (bif !q2.1.2.1 then
  (S196 k c).bind fun q3 =>
  some (q3.1, ())
 else
  (bif decide (q2.1.1 > e) then
   (S196 k c).bind fun q4 =>
   some (q4.1, ())
  else
   (bif c then
    some ((IntKind.i64.wrap (IntKind.u64.wrap (0 - q2.1.1)), true, ()), ())
   else
    some ((IntKind.i64.wrap q2.1.1, true, ()), ()))))
def S190 (k : Nat) (a b : Int) : Option Y0_34 :=
 (bif !((decide (a < 0)) == (decide (b < 0))) then
  j190_5 k a b (!((decide (a < 0)) == (decide (b < 0)))) 9223372036854775808
 else
  j190_5 k a b (!((decide (a < 0)) == (decide (b < 0)))) 9223372036854775807)
def F190 : Fn := ⟨[.val ⟨false, (.int .i64), false⟩, .val ⟨false, (.int .i64), false⟩], [.val ⟨false, (.int .i64), true⟩, .val ⟨false, .bool, true⟩], fun k x => S190 k x.1 x.2.1⟩
theorem ok190 : FnOK Tryz.prog 190 F190 := okF [(194, F194), (195, F195), (196, F196)] [] (fun k => (.join 5 c190_J5 (fun d => j190_5 k d.2.1 d.2.2.1 d.2.2.2.1 d.2.2.2.2.1) .nil)) ⟨ok194, ok195, ok196, trivial⟩ Tryz.func190 rfl
abbrev c187_L12 : Cut := ⟨[3, 5, 6, 7, 20, 21, 22], [.own 2 (.int .i64), cI, .box 24 [cI, cI, cI, cI], cI, .cell Y0_25, cI, cI], [], 55, []⟩
def l187_12 (k : Nat) (g8 : Y0_48) (g12 : (List Int) → Int → Int → Int → Int → Int → Int → (List Y0_7) → Int → Int → Option Y0_19) (a : List Int) (b x c e f h : Int) (i : List Y0_7) (l m : Int) : Option Y0_19 :=
 (bif decide (h ≤ (IntKind.i64.wrap (b + e))) then
  ix a h <|
  (S190 k (rd a h 0) f).bind fun q0 =>
  ix a h <|
  g12 (upd a h q0.1.1) b x c e f (IntKind.i64.wrap (h + 1)) i l m
 else
  g8 a i l (IntKind.i64.wrap (m + 1)))
def b187_12 (k : Nat) (g8 : Y0_48) (g : ((Unit) × (List Int) × Int × (Int × Int × Int × Int × Unit) × Int × (List Y0_7) × Int × Int × Unit) → Option Y0_19) : ((Unit) × (List Int) × Int × (Int × Int × Int × Int × Unit) × Int × (List Y0_7) × Int × Int × Unit) → Option Y0_19 := fun (_, a, b, (x, c, e, f, _), h, i, l, m, _) => l187_12 k g8 (fun a b x c e f h i l m => g ((), a, b, (x, c, e, f, ()), h, i, l, m, ())) a b x c e f h i l m
def L187_12 (k : Nat) (g8 : Y0_48) (a : Nat) (b : List Int) (c x e f h i : Int) (l : List Y0_7) (m n : Int) : Option Y0_19 := iter (R := ((List Int) × Unit) × Unit) c187_L12 (b187_12 k g8) a ((), b, c, (x, e, f, h, ()), i, l, m, n, ())
theorem L187_12_s (k g8 a b c x e f h i l m n) : L187_12 k g8 (a + 1) b c x e f h i l m n = l187_12 k g8 (L187_12 k g8 a) b c x e f h i l m n := iter_succ _ _ _ _
abbrev c187_L8 : Cut := ⟨[3, 20, 21, 22], [.own 2 (.int .i64), .cell Y0_25, cI, cI], [], 55, []⟩
def l187_8 (k : Nat) (g8 : Y0_48) (a : List Int) (b : List Y0_7) (c e : Int) : Option Y0_19 :=
 (bif decide (e < c) then
  ix b e <|
  (bif (rd b e (0, 0, 0, 0)).1 != 8 then
   g8 a b c (IntKind.i64.wrap (e + 1))
  else
   L187_12 k g8 k a e (rd b e (0, 0, 0, 0)).1 (rd b e (0, 0, 0, 0)).2.1 (rd b e (0, 0, 0, 0)).2.2.1 (rd b e (0, 0, 0, 0)).2.2.2 (IntKind.i64.wrap (e + 1)) b c e)
 else
  some ((a, ()), ()))
def b187_8 (k : Nat) (g : ((Unit) × (List Int) × (List Y0_7) × Int × Int × Unit) → Option Y0_19) : ((Unit) × (List Int) × (List Y0_7) × Int × Int × Unit) → Option Y0_19 := fun (_, a, b, c, e, _) => l187_8 k (fun a b c e => g ((), a, b, c, e, ())) a b c e
def L187_8 (k a : Nat) (b : List Int) (c : List Y0_7) (e f : Int) : Option Y0_19 := iter (R := ((List Int) × Unit) × Unit) c187_L8 (b187_8 k) a ((), b, c, e, f, ())
theorem L187_8_s (k a b c e f) : L187_8 k (a + 1) b c e f = l187_8 k (L187_8 k a) b c e f := iter_succ _ _ _ _
abbrev c187_L3 : Cut := ⟨[0, 3, 12, 13], [.cell Y0_25, .own 2 (.int .i64), cI, cI], [], 55, []⟩
def l187_3 (k : Nat) (g3 : (List Y0_7) → (List Int) → Int → Int → Option Y0_19) (a : List Y0_7) (b : List Int) (c e : Int) : Option Y0_19 :=
 (bif decide (e < c) then
  ix b e <|
  g3 a (upd b e 1) c (IntKind.i64.wrap (e + 1))
 else
  L187_8 k k b a (a.length : Int) 0)
def b187_3 (k : Nat) (g : ((Unit) × (List Y0_7) × (List Int) × Int × Int × Unit) → Option Y0_19) : ((Unit) × (List Y0_7) × (List Int) × Int × Int × Unit) → Option Y0_19 := fun (_, a, b, c, e, _) => l187_3 k (fun a b c e => g ((), a, b, c, e, ())) a b c e
def L187_3 (k a : Nat) (b : List Y0_7) (c : List Int) (e f : Int) : Option Y0_19 := iter (R := ((List Int) × Unit) × Unit) c187_L3 (b187_3 k) a ((), b, c, e, f, ())
theorem L187_3_s (k a b c e f) : L187_3 k (a + 1) b c e f = l187_3 k (L187_3 k a) b c e f := iter_succ _ _ _ _
def S187 (k : Nat) (a : List Y0_7) : Option Y0_19 :=
 mk (a.length : Int) (a.length : Int) 8 <|
 L187_3 k k a (List.replicate (a.length : Int).toNat (0 : Int)) ((List.replicate (a.length : Int).toNat (0 : Int)).length : Int) 0
def F187 : Fn := ⟨[.val ⟨false, Y0_25, false⟩], [.val ⟨false, Y0_62, true⟩], fun k x => S187 k x.1⟩
theorem ok187 : FnOK Tryz.prog 187 F187 := okF [(190, F190)] [] (fun k => (.loop 8 c187_L8 (b187_8 k) (fun g => (fun (g8 : Y0_48) => (.loop 12 c187_L12 (b187_12 k g8) (fun g => .nil) .nil)) (fun out1 t20 t21 t22 => g ((), out1, t20, t21, t22, ()))) (.loop 3 c187_L3 (b187_3 k) (fun g => .nil) .nil))) ⟨ok190, trivial⟩ Tryz.func187 rfl
def S191 (k : Nat) (a b : Int) : Option Y0_34 :=
 (bif decide ((iand .i64 (ixor .i64 a (IntKind.i64.wrap (IntKind.u64.wrap ((IntKind.u64.wrap a) + (IntKind.u64.wrap b))))) (ixor .i64 b (IntKind.i64.wrap (IntKind.u64.wrap ((IntKind.u64.wrap a) + (IntKind.u64.wrap b)))))) < 0) then
  (S196 k (decide (a < 0))).bind fun q0 =>
  some (q0.1, ())
 else
  some ((IntKind.i64.wrap (IntKind.u64.wrap ((IntKind.u64.wrap a) + (IntKind.u64.wrap b))), true, ()), ()))
def F191 : Fn := ⟨[.val ⟨false, (.int .i64), false⟩, .val ⟨false, (.int .i64), false⟩], [.val ⟨false, (.int .i64), true⟩, .val ⟨false, .bool, true⟩], fun k x => S191 k x.1 x.2.1⟩
theorem ok191 : FnOK Tryz.prog 191 F191 := okF [(196, F196)] [] (fun k => .nil) ⟨ok196, trivial⟩ Tryz.func191 rfl
abbrev c188_L2 : Cut := ⟨[2, 5, 6, 7], [cI, .cell Y0_62, cI, cI], [], 19, []⟩
def l188_2 (k : Nat) (g2 : Y0_46) (a : Int) (b : List Int) (c e : Int) : Option Y0_12 :=
 (bif decide (e < c) then
  ix b e <|
  (S191 k a (rd b e 0)).bind fun q0 =>
  g2 q0.1.1 b c (IntKind.i64.wrap (e + 1))
 else
  some ((a, ()), ()))
def b188_2 (k : Nat) (g : ((Unit) × Int × (List Int) × Int × Int × Unit) → Option Y0_12) : ((Unit) × Int × (List Int) × Int × Int × Unit) → Option Y0_12 := fun (_, a, b, c, e, _) => l188_2 k (fun a b c e => g ((), a, b, c, e, ())) a b c e
def L188_2 (k a : Nat) (b : Int) (c : List Int) (e f : Int) : Option Y0_12 := iter (R := Y0_53 × Unit) c188_L2 (b188_2 k) a ((), b, c, e, f, ())
theorem L188_2_s (k a b c e f) : L188_2 k (a + 1) b c e f = l188_2 k (L188_2 k a) b c e f := iter_succ _ _ _ _
def S188 (k : Nat) (a : List Int) : Option Y0_12 :=
 L188_2 k k 0 a (a.length : Int) 0
def F188 : Fn := ⟨[.val ⟨false, Y0_62, false⟩], [.val ⟨false, (.int .i64), true⟩], fun k x => S188 k x.1⟩
theorem ok188 : FnOK Tryz.prog 188 F188 := okF [(191, F191)] [] (fun k => (.loop 2 c188_L2 (b188_2 k) (fun g => .nil) .nil)) ⟨ok191, trivial⟩ Tryz.func188 rfl
abbrev c164_L7 : Cut := ⟨[2, 4, 5, 6, 24, 25, 26], [.box 263 [cI, cI, .own 273 Y0_16], .own 2 (.int .i64), cI, .own 3 (.int .i64), .cell Y0_25, cI, cI], [], 75, []⟩
def l164_7 (k : Nat) (g7 : Int → Int → Y0_14 → (List Int) → Int → (List Int) → (List Y0_7) → Int → Int → Option Y0_42) (a b : Int) (c : Y0_31) (e : List Int) (f : Int) (h : List Int) (i : List Y0_7) (l m : Int) : Option Y0_42 :=
 (bif decide (m < l) then
  ix i m <|
  (bif (rd i m (0, 0, 0, 0)).1 == 11 then
   sx e f (IntKind.i64.wrap (m + 1)) <|
   (S188 k (sub e f (IntKind.i64.wrap (m + 1)))).bind fun q4 =>
   g7 a (mx b q4.1.1) c e (IntKind.i64.wrap (m + 1)) h i l (IntKind.i64.wrap (m + 1))
  else
   (bif (rd i m (0, 0, 0, 0)).1 == 0 then
    sx e f (IntKind.i64.wrap (m + 1)) <|
    (S188 k (sub e f (IntKind.i64.wrap (m + 1)))).bind fun q5 =>
    g7 a (mx b q5.1.1) c e (IntKind.i64.wrap (m + 1)) h i l (IntKind.i64.wrap (m + 1))
   else
    (bif (rd i m (0, 0, 0, 0)).1 == 9 then
     ix h m <|
     sx e (IntKind.i64.wrap (m + 1)) (IntKind.i64.wrap ((rd h m 0) + 1)) <|
     (S188 k (sub e (IntKind.i64.wrap (m + 1)) (IntKind.i64.wrap ((rd h m 0) + 1)))).bind fun q6 =>
     ix e m <|
     nz (rd e m 0) <|
     ap c ([((rd i m (0, 0, 0, 0)).2.1, IntKind.i64.wrap (Int.tdiv q6.1.1 (rd e m 0)))] : List (Int × Int)) 16 fun r7 =>
     g7 a b r7 e f h i l (IntKind.i64.wrap (m + 1))
    else
     g7 a b c e f h i l (IntKind.i64.wrap (m + 1)))))
 else
  some (((a, b, c), true, ()), ()))
def b164_7 (k : Nat) (g : ((Unit) × (Int × Int × Y0_14 × Unit) × (List Int) × Int × (List Int) × (List Y0_7) × Int × Int × Unit) → Option Y0_42) : ((Unit) × (Int × Int × Y0_14 × Unit) × (List Int) × Int × (List Int) × (List Y0_7) × Int × Int × Unit) → Option Y0_42 := fun (_, (a, b, c, _), e, f, h, i, l, m, _) => l164_7 k (fun a b c e f h i l m => g ((), (a, b, c, ()), e, f, h, i, l, m, ())) a b c e f h i l m
def L164_7 (k a : Nat) (b c : Int) (e : Y0_31) (f : List Int) (h : Int) (i : List Int) (l : List Y0_7) (m n : Int) : Option Y0_42 := iter (R := ((Int × Int × List (Int × Int)) × Bool × Unit) × Unit) c164_L7 (b164_7 k) a ((), (b, c, e, ()), f, h, i, l, m, n, ())
theorem L164_7_s (k a b c e f h i l m n) : L164_7 k (a + 1) b c e f h i l m n = l164_7 k (L164_7 k a) b c e f h i l m n := iter_succ _ _ _ _
def S164 (k : Nat) (a : List Y0_7) : Option Y0_42 :=
 (S113 k a).bind fun q0 =>
 (bif !q0.1.1 then
  some (((0, 0, []), false, ()), ())
 else
  (S187 k a).bind fun q1 =>
  (S159 k a).bind fun q2 =>
  (S188 k q1.1.1).bind fun q3 =>
  L164_7 k k q3.1.1 0 ([] : List (Int × Int)) q1.1.1 0 q2.1.1 a (a.length : Int) 0)
def F164 : Fn := ⟨[.val ⟨false, Y0_25, false⟩], [.val ⟨true, (.pair (.int .i64) (.pair (.int .i64) (.sl 273 Y0_16))), true⟩, .val ⟨false, .bool, true⟩], fun k x => S164 k x.1⟩
theorem ok164 : FnOK Tryz.prog 164 F164 := okF [(113, F113), (159, F159), (187, F187), (188, F188)] [(2, 2)] (fun k => (.loop 7 c164_L7 (b164_7 k) (fun g => .nil) .nil)) ⟨ok113, ok159, ok187, ok188, trivial⟩ Tryz.func164 rfl
def S116 (k : Nat) (a : List Y0_7) : Option Y0_12 :=
 (S164 k a).bind fun q0 =>
 some ((q0.1.1.1, ()), ())
def F116 : Fn := ⟨[.val ⟨false, Y0_25, false⟩], [.val ⟨false, (.int .i64), true⟩], fun k x => S116 k x.1⟩
theorem ok116 : FnOK Tryz.prog 116 F116 := okF [(164, F164)] [] (fun k => .nil) ⟨ok164, trivial⟩ Tryz.func116 rfl
def S74 (k : Nat) (a : Y0_28) : Option Y0_12 :=
 (bif decide (a.1 < 0) then
  some ((1, ()), ())
 else
  (bif decide (a.1 > 63) then
   some ((1, ()), ())
  else
   (bif decide (a.2.1 < 1) then
    some ((9, ()), ())
   else
    (bif decide (a.2.1 > 16384) then
     some ((9, ()), ())
    else
     (bif decide (a.2.2.1 < 1) then
      some ((9, ()), ())
     else
      (bif decide (a.2.2.1 > a.2.1) then
       some ((9, ()), ())
      else
       (S113 k a.2.2.2.1).bind fun q0 =>
       (bif !q0.1.1 then
        some ((2, ()), ())
       else
        (S114 k a.2.2.2.2.1).bind fun q1 =>
        (bif !q1.1.1 then
         some ((2, ()), ())
        else
         (S114 k a.2.2.2.2.2).bind fun q2 =>
         (bif !q2.1.1 then
          some ((2, ()), ())
         else
          (S115 k a.2.2.2.2.2).bind fun q3 =>
          (bif q3.1.1 then
           some ((2, ()), ())
          else
           (S116 k a.2.2.2.1).bind fun q4 =>
           (bif decide (q4.1.1 > a.2.2.1) then
            some ((10, ()), ())
           else
            (S116 k a.2.2.2.2.1).bind fun q5 =>
            (S116 k a.2.2.2.1).bind fun q6 =>
            (bif decide (q5.1.1 > q6.1.1) then
             some ((12, ()), ())
            else
             some ((0, ()), ())))))))))))))
def F74 : Fn := ⟨[.val ⟨true, Y0_1, false⟩], [.val ⟨false, (.int .i64), true⟩], fun k x => S74 k x.1⟩
theorem ok74 : FnOK Tryz.prog 74 F74 := okF [(113, F113), (114, F114), (115, F115), (116, F116)] [] (fun k => .nil) ⟨ok113, ok114, ok115, ok116, trivial⟩ Tryz.func74 rfl
def S54 (k : Nat) (a : List Y0_7) : Option Y0_38 := cloneSem 32 24 Y0_6 k (a, ())
def F54 : Fn := ⟨clonePs 24 Y0_6, cloneRs 24 Y0_6, cloneSem 32 24 Y0_6⟩
theorem ok54 : FnOK Tryz.prog 54 F54 := clone_ok E0_ok mix Tryz.func54 rfl (by kernel_rfl) (by kernel_rfl) (fun k => by kernel_rfl) (fun k xs => by kernel_rfl) (fun k xs => by kernel_rfl)
def S75 (k : Nat) (a : Y0_28) : Option ((Y0_0 × Unit) × Unit) :=
 (S54 k a.2.2.2.1).bind fun q0 =>
 (S54 k a.2.2.2.2.1).bind fun q1 =>
 (S54 k a.2.2.2.2.2).bind fun q2 =>
 some (((a.1, a.2.1, a.2.2.1, q0.1.1, q1.1.1, q2.1.1), ()), ())
def F75 : Fn := ⟨[.val ⟨true, Y0_1, false⟩], [.val ⟨true, Y0_1, true⟩], fun k x => S75 k x.1⟩
theorem ok75 : FnOK Tryz.prog 75 F75 := okF [(54, F54)] [] (fun k => .nil) ⟨ok54, trivial⟩ Tryz.func75 rfl
def S77 (k : Nat) (x a : Y0_28) : Option Y0_15 :=
 some ((decide (x.1 > a.1), ()), ())
def F77 : Fn := ⟨[.val ⟨true, Y0_1, false⟩, .pv (.ref Y0_1)], [.val ⟨false, .bool, true⟩], fun k x => S77 k x.1 x.2.1⟩
theorem ok77 : FnOK Tryz.prog 77 F77 := okF [] [] (fun k => .nil) trivial Tryz.func77 rfl
abbrev c76_L2 : Cut := ⟨[0, 1, 7, 8], [.cell Y0_39, .clo 77 [.ref Y0_1], cI, cI], [], 19, []⟩
def l76_2 (k : Nat) (g2 : (List Y0_0) → Y0_0 → Int → Int → Option Y0_12) (a : List Y0_0) (b : Y0_28) (c e : Int) : Option Y0_12 :=
 (bif decide (e < c) then
  ix a e <|
  (S77 k (rd a e (0, 0, 0, [], [], [])) b).bind fun q0 =>
  (bif q0.1.1 then
   some ((e, ()), ())
  else
   g2 a b c (IntKind.i64.wrap (e + 1)))
 else
  some (((-1), ()), ()))
def b76_2 (k : Nat) (g : ((Unit) × (List Y0_0) × (Y0_0 × Unit) × Int × Int × Unit) → Option Y0_12) : ((Unit) × (List Y0_0) × (Y0_0 × Unit) × Int × Int × Unit) → Option Y0_12 := fun (_, a, (b, _), c, e, _) => l76_2 k (fun a b c e => g ((), a, (b, ()), c, e, ())) a b c e
def L76_2 (k a : Nat) (b : List Y0_0) (c : Y0_28) (e f : Int) : Option Y0_12 := iter (R := Y0_53 × Unit) c76_L2 (b76_2 k) a ((), b, (c, ()), e, f, ())
theorem L76_2_s (k a b c e f) : L76_2 k (a + 1) b c e f = l76_2 k (L76_2 k a) b c e f := iter_succ _ _ _ _
def S76 (k : Nat) (a : List Y0_0) (b : Y0_28) : Option Y0_12 :=
 L76_2 k k a b (a.length : Int) 0
def F76 : Fn := ⟨[.val ⟨false, Y0_39, false⟩, .pv (.clo 77 [.ref Y0_1])], [.val ⟨false, (.int .i64), true⟩], fun k x => S76 k x.1 x.2.1.1⟩
theorem ok76 : FnOK Tryz.prog 76 F76 := okF [(77, F77)] [] (fun k => (.loop 2 c76_L2 (b76_2 k) (fun g => .nil) .nil)) ⟨ok77, trivial⟩ Tryz.func76 rfl
section
variable (w : World) {g n c i g2 m c2 : Nat}
theorem insF78_t : Tryz.prog.underlying 38 = some (.slice 27) ∧ Tryz.prog.underlying 3 = some (.int .i64) ∧ Tryz.prog.underlying 4 = some .bool ∧ Tryz.prog.follows .mixedOrders = true ∧ (∀ w, (Go.sizeOf 27).run Tryz.prog w = .ok 6 w) ∧ Tryz.f78.ntmps = 95 := ⟨by kernel_rfl, by kernel_rfl, by kernel_rfl, by kernel_rfl, fun w => by kernel_rfl, rfl⟩
theorem insF78_none {v u : Value} (hv : (∃ A n c, v = .slice A n c ∧ i ≤ n)) (hu : ∃ A c, u = .slice A m c) (hm : m = 0) : Calls Tryz.prog 78 #[v, .int .i64 i, u] w fun e w' => e = .returned v ∧ w' = w := by
 obtain ⟨t24, t3, t4, mixed, z36, hnt⟩ := insF78_t
 have u24 := run_underlying t24; have u3 := run_underlying t3; have u4 := run_underlying t4
 obtain ⟨A, n, c, rfl, hi⟩ := hv
 obtain ⟨A2, c2, rfl⟩ := hu
 have hi0 : (i : Int) ≤ (n : Int) := by omega
 have hz1 : (m : Int) = 0 := by omega
 cases A <;> (go_enter Tryz.func78, hnt; go_wp2 <;> (go_ret; exact ⟨rfl, rfl⟩))
theorem insF78_end {v : Value} {w' : World} {v' : Value} (hv : (∃ A c, v = .slice A n c)) (hm : 0 < m)
  (hr : ∀ ty, (Builtin.append_ #[38, 38] ty #[v, .slice (some ⟨g2, 0, none⟩) m c2]).run Tryz.prog w = .ok v' w') : Calls Tryz.prog 78 #[v, .int .i64 n, .slice (some ⟨g2, 0, none⟩) m c2] w fun e w1 => e = .returned v' ∧ w1 = w' := by
 obtain ⟨t24, t3, t4, mixed, z36, hnt⟩ := insF78_t
 have u24 := run_underlying t24; have u3 := run_underlying t3; have u4 := run_underlying t4
 have hz1 : ¬ ((m : Int) = 0) := by omega
 obtain ⟨A, c, rfl⟩ := hv
 go_enter Tryz.func78, hnt
 go_wp2_with (at_builtin; refine append_list rfl rfl _ _ rfl rfl (hr _) ?_)
 all_goals (go_ret; exact ⟨rfl, rfl⟩)
theorem insF78_shift {v' v'' : Value} {w' w'' : World} (hi : i < n) (hm : 0 < m) (hroom : n + m ≤ c) (hc63 : c ≤ 9223372036854775807)
  (hov : ∀ lb cb, (callFunc 117 #[.slice (some ⟨g2, 0, none⟩) m c2, .slice (some ⟨g, (i + m) * 6, none⟩) lb cb]).run Tryz.prog w = .ok (.value (.bool false)) w)
  (hcp1 : ∀ ty dc sc, (Builtin.copy_ #[38, 38] ty #[.slice (some ⟨g, (i + m) * 6, none⟩) (n + m - (i + m)) dc, .slice (some ⟨g, i * 6, none⟩) (n + m - i) sc]).run Tryz.prog w.drew = .ok v' w')
  (hcp2 : ∀ ty dc, (Builtin.copy_ #[38, 38] ty #[.slice (some ⟨g, i * 6, none⟩) (n + m - i) dc, .slice (some ⟨g2, 0, none⟩) m c2]).run Tryz.prog w' = .ok v'' w'') :
  Calls Tryz.prog 78 #[.slice (some ⟨g, 0, none⟩) n c, .int .i64 i, .slice (some ⟨g2, 0, none⟩) m c2] w fun e w1 => e = .returned (.slice (some ⟨g, 0, none⟩) (n + m) c) ∧ w1 = w'' := by
 obtain ⟨t24, t3, t4, mixed, z36, hnt⟩ := insF78_t
 have u24 := run_underlying t24; have u3 := run_underlying t3; have u4 := run_underlying t4
 have hz1 : ¬ ((m : Int) = 0) := by omega
 have hz2 : ¬ ((i : Int) = (n : Int)) := by omega
 have hw1 : IntKind.i64.wrap ((i : Int) + (m : Int)) = (i : Int) + (m : Int) := by rw [IntKind.wrap_i64]; omega
 have hb1 : (0 : Int) ≤ (i : Int) + (m : Int) := by omega
 have hin : i ≤ n := by omega
 have htn : ((i : Int) + (m : Int)).toNat = i + m := by omega
 have hb2 : ¬ (c = i + m) := by omega
 have hb3 : (i : Int) ≤ (n : Int) + (m : Int) := by omega
 have hb4 : ¬ (c = i) := by omega
 go_enter Tryz.func78, hnt
 go_wp2_with (simp only [hov])
 go_region_law_o (refine copy_step rfl rfl _ _ (by simp [Act.eval, Act.put]) (by simp [Act.eval, Act.put]) (hcp1 _ _ _) ?_)
 go_wp2_with (at_builtin; refine copy_list rfl rfl _ _ rfl rfl (hcp2 _ _) ?_)
 go_ret
 exact ⟨rfl, rfl⟩
theorem insF78_grow {h G : Nat} {v' v'' : Value} {w0 w' w'' : World} (hi : i < n) (hm : 0 < m) (hnc : n ≤ c) (hroom : c < n + m) (hc63 : n + m ≤ 140737488355328) (hG : n + m ≤ G) (hG63 : G ≤ 9223372036854775807)
  (hrz : ∀ ty, (Builtin.append_ #[38, 3] ty #[.slice (some ⟨g, 0, none⟩) i c, .int .i64 ((n : Int) + (m : Int) - (i : Int))]).run Tryz.prog w = .ok (.slice (some ⟨h, 0, none⟩) (n + m) G) w0)
  (hcp1 : ∀ ty dc, (Builtin.copy_ #[38, 38] ty #[.slice (some ⟨h, i * 6, none⟩) (n + m - i) dc, .slice (some ⟨g2, 0, none⟩) m c2]).run Tryz.prog w0 = .ok v' w')
  (hcp2 : ∀ ty dc sc, (Builtin.copy_ #[38, 38] ty #[.slice (some ⟨h, (i + m) * 6, none⟩) (n + m - (i + m)) dc, .slice (some ⟨g, i * 6, none⟩) (n - i) sc]).run Tryz.prog w'.drew = .ok v'' w'') :
  Calls Tryz.prog 78 #[.slice (some ⟨g, 0, none⟩) n c, .int .i64 i, .slice (some ⟨g2, 0, none⟩) m c2] w fun e w1 => e = .returned (.slice (some ⟨h, 0, none⟩) (n + m) G) ∧ w1 = w'' := by
 obtain ⟨t24, t3, t4, mixed, z36, hnt⟩ := insF78_t
 have u24 := run_underlying t24; have u3 := run_underlying t3; have u4 := run_underlying t4
 have hz1 : ¬ ((m : Int) = 0) := by omega
 have hz2 : ¬ ((i : Int) = (n : Int)) := by omega
 have hz3 : (c : Int) < (n : Int) + (m : Int) := by omega
 have hw1 : IntKind.i64.wrap ((i : Int) + (m : Int)) = (i : Int) + (m : Int) := by rw [IntKind.wrap_i64]; omega
 have hb1 : (0 : Int) ≤ (i : Int) + (m : Int) := by omega
 have hin : i ≤ n := by omega
 have htn : ((i : Int) + (m : Int)).toNat = i + m := by omega
 have hGi : ¬ (G = i) := by omega
 have hGim : ¬ (G = i + m) := by omega
 have hci : ¬ (c = i) := by omega
 have hb3 : (i : Int) ≤ (n : Int) := by omega
 go_enter Tryz.func78, hnt
 go_wp2_with (first
  | (at_builtin; refine append_list rfl rfl _ _ rfl rfl (hrz _) ?_)
  | (at_builtin; refine copy_list rfl rfl _ _ rfl rfl (hcp1 _ _) ?_))
 go_region_law_o (refine copy_step rfl rfl _ _ (by simp [Act.eval, Act.put]) (by simp [Act.eval, Act.put]) (hcp2 _ _ _) ?_)
 go_wp2
 go_ret
 exact ⟨rfl, rfl⟩
end
abbrev P78 : List PT := insPs 27 Y0_1
abbrev R78 : List RT := insRs 27 Y0_1
def S78 (k : Nat) (a : List Y0_0) (b : Int) (c : List Y0_0) : Option (((List Y0_0) × Unit) × Unit) := insSem 96 27 Y0_1 k (a, b, c, ())
def F78 : Fn := ⟨P78, R78, insSem 96 27 Y0_1⟩
def E78 : Env := tab.env (fun _ => none) (fun _ => 0)
theorem E78_ok : EnvOK Tryz.prog E78 := envOK_of tabOK _ _ (fun f F h => by cases h)
theorem ok78 : FnOK Tryz.prog 78 F78 := by
 obtain ⟨i0, z, a1, a2, a3, a4, a5⟩ := (E78_ok.ty 27 (Y0_1) (by kernel_rfl)).info
 have b1 : E78.byt 27 = 96 := by kernel_rfl
 have b2 : Ty.sz (Y0_1) = 6 := rfl
 rw [b1] at a3
 have hz : z.cells.size = 6 := by rw [← Array.length_toList, a5, zeroV_len, b2]
 obtain ⟨t24, t3, t4, mixed, z36, hnt⟩ := insF78_t
 refine ins_ok Tryz.func78 rfl (by kernel_rfl) ?_
 rw [b2, ← a3]
 refine ins_all (S := 38) (z := z) t24 t3 a1 a4 (by rw [a2, b2]) hz (by decide) (by rw [a3]; decide) (fun w i m v u h1 h2 h3 => insF78_none w h1 h2 h3) (fun w n g2 m c2 v v' w' h1 h2 h3 => insF78_end w h1 h2 h3) (fun w g n c i g2 m c2 v' v'' w' w'' h1 h2 h3 h4 h5 h6 hne hg hg2 => insF78_shift w h1 h2 h3 h4 (fun lb cb => ?_) h5 h6) (fun w g n c i g2 m c2 h G v' v'' w0 w' w'' h1 h2 h3 h4 h5 h6 h7 h8 h9 h10 => insF78_grow w h1 h2 h3 h4 h5 h6 h7 h8 h9 h10)
 obtain ⟨cur, q1, q2⟩ := hg
 obtain ⟨cur2, q3⟩ := hg2
 rw [run_callFunc_extern Tryz.func117 (by kernel_rfl) (by kernel_rfl) (by kernel_rfl) (e := Extern.SlicesOverlaps.overlaps #[38, 38] #[4]) (by kernel_rfl), Lib.run_overlaps_apart w 38 4 27 t24 6 z36 ⟨g2, 0, none⟩ ⟨g, (i + m) * 6, none⟩ m c2 lb cb hne 27 27 cur2.size cur.size (by simp [World.shape?, q3]) (by simp [World.shape?, q1]) q2 (Kd.frozen_row q3 _) (Kd.frozen_row q3 _)]
 rfl
abbrev c166_L2 : Cut := ⟨[0, 5, 6, 7], [.cell Y0_39, .cell Y0_39, cI, cI], [], 31, []⟩
def l166_2 (k : Nat) (g2 : (List Y0_0) → (List Y0_0) → Int → Int → Option Y0_15) (a b : List Y0_0) (c e : Int) : Option Y0_15 :=
 (bif decide (e < c) then
  ix b e <|
  (S74 k (rd b e (0, 0, 0, [], [], []))).bind fun q0 =>
  (bif q0.1.1 != 0 then
   some ((false, ()), ())
  else
   (bif decide (e > 0) then
    ix a (IntKind.i64.wrap (e - 1)) <|
    (bif decide ((rd a (IntKind.i64.wrap (e - 1)) (0, 0, 0, [], [], [])).1 ≥ (rd b e (0, 0, 0, [], [], [])).1) then
     some ((false, ()), ())
    else
     g2 a b c (IntKind.i64.wrap (e + 1)))
   else
    g2 a b c (IntKind.i64.wrap (e + 1))))
 else
  some ((true, ()), ()))
def b166_2 (k : Nat) (g : ((Unit) × (List Y0_0) × (List Y0_0) × Int × Int × Unit) → Option Y0_15) : ((Unit) × (List Y0_0) × (List Y0_0) × Int × Int × Unit) → Option Y0_15 := fun (_, a, b, c, e, _) => l166_2 k (fun a b c e => g ((), a, b, c, e, ())) a b c e
def L166_2 (k a : Nat) (b c : List Y0_0) (e f : Int) : Option Y0_15 := iter (R := (Bool × Unit) × Unit) c166_L2 (b166_2 k) a ((), b, c, e, f, ())
theorem L166_2_s (k a b c e f) : L166_2 k (a + 1) b c e f = l166_2 k (L166_2 k a) b c e f := iter_succ _ _ _ _
def S166 (k : Nat) (a : List Y0_0) : Option Y0_15 :=
 L166_2 k k a a (a.length : Int) 0
def F166 : Fn := ⟨[.val ⟨false, Y0_39, false⟩], [.val ⟨false, .bool, true⟩], fun k x => S166 k x.1⟩
theorem ok166 : FnOK Tryz.prog 166 F166 := okF [(74, F74)] [] (fun k => (.loop 2 c166_L2 (b166_2 k) (fun g => .nil) .nil)) ⟨ok74, trivial⟩ Tryz.func166 rfl
def S193 (k : Nat) (a : Int) : Option Y0_32 :=
 (bif decide (a < 0) then
  none
 else
  (bif decide ((IntKind.i64.wrap (a - 0)) > 0) then
   az ([] : List (Int × Int)) (IntKind.i64.wrap (a - 0)) 16 (0, 0) fun r0 =>
   sx r0 0 0 <|
   some ((r0.take 0, ()), ())
  else
   some (([], ()), ())))
def F193 : Fn := ⟨[.pv (.nil), .val ⟨false, (.int .i64), false⟩], [.val ⟨false, (.sl 273 Y0_16), true⟩], fun k x => S193 k x.2.1⟩
theorem ok193 : FnOK Tryz.prog 193 F193 := okF [] [(25, 1)] (fun k => .nil) trivial Tryz.func193 rfl
abbrev c169_L11 : Cut := ⟨[6, 25, 26, 27], [.own 273 Y0_16, .cell (.sl 216 (.sl 273 Y0_16)), cI, cI], [], 36, []⟩
def l169_11 (k : Nat) (g11 : Y0_14 → (List Y0_14) → Int → Int → Option Y0_32) (a : Y0_31) (b : List Y0_14) (c e : Int) : Option Y0_32 :=
 (bif decide (e < c) then
  ix b e <|
  ap a (rd b e []) 16 fun r1 =>
  g11 r1 b c (IntKind.i64.wrap (e + 1))
 else
  some ((a, ()), ()))
def b169_11 (k : Nat) (g : ((Unit) × Y0_14 × (List Y0_14) × Int × Int × Unit) → Option Y0_32) : ((Unit) × Y0_14 × (List Y0_14) × Int × Int × Unit) → Option Y0_32 := fun (_, a, b, c, e, _) => l169_11 k (fun a b c e => g ((), a, b, c, e, ())) a b c e
def L169_11 (k a : Nat) (b : Y0_31) (c : List Y0_14) (e f : Int) : Option Y0_32 := iter (R := (Y0_14 × Unit) × Unit) c169_L11 (b169_11 k) a ((), b, c, e, f, ())
theorem L169_11_s (k a b c e f) : L169_11 k (a + 1) b c e f = l169_11 k (L169_11 k a) b c e f := iter_succ _ _ _ _
abbrev c169_L3 : Cut := ⟨[0, 3, 9, 10, 11], [.cell (.sl 216 (.sl 273 Y0_16)), cI, .cell (.sl 216 (.sl 273 Y0_16)), cI, cI], [], 36, []⟩
def l169_3 (k : Nat) (g3 : (List Y0_14) → Int → (List Y0_14) → Int → Int → Option Y0_32) (a : List Y0_14) (b : Int) (c : List Y0_14) (e f : Int) : Option Y0_32 :=
 (bif decide (f < e) then
  ix c f <|
  (bif decide ((IntKind.i64.wrap (b + ((rd c f []).length : Int))) < 0) then
   none
  else
   g3 a (IntKind.i64.wrap (b + ((rd c f []).length : Int))) c e (IntKind.i64.wrap (f + 1)))
 else
  (S193 k b).bind fun q0 =>
  L169_11 k k q0.1.1 a (a.length : Int) 0)
def b169_3 (k : Nat) (g : ((Unit) × (List Y0_14) × Int × (List Y0_14) × Int × Int × Unit) → Option Y0_32) : ((Unit) × (List Y0_14) × Int × (List Y0_14) × Int × Int × Unit) → Option Y0_32 := fun (_, a, b, c, e, f, _) => l169_3 k (fun a b c e f => g ((), a, b, c, e, f, ())) a b c e f
def L169_3 (k a : Nat) (b : List Y0_14) (c : Int) (e : List Y0_14) (f h : Int) : Option Y0_32 := iter (R := (Y0_14 × Unit) × Unit) c169_L3 (b169_3 k) a ((), b, c, e, f, h, ())
theorem L169_3_s (k a b c e f h) : L169_3 k (a + 1) b c e f h = l169_3 k (L169_3 k a) b c e f h := iter_succ _ _ _ _
def S169 (k : Nat) (a : List Y0_14) : Option Y0_32 :=
 L169_3 k k a 0 a (a.length : Int) 0
def F169 : Fn := ⟨[.val ⟨false, (.sl 216 (.sl 273 Y0_16)), false⟩], [.val ⟨false, (.sl 273 Y0_16), true⟩], fun k x => S169 k x.1⟩
theorem ok169 : FnOK Tryz.prog 169 F169 := okF [(193, F193)] [] (fun k => (.loop 11 c169_L11 (b169_11 k) (fun g => .nil) (.loop 3 c169_L3 (b169_3 k) (fun g => .nil) .nil))) ⟨ok193, trivial⟩ Tryz.func169 rfl
def S120 (k : Nat) (a : Y0_28) : Option ((Int × Int × Y0_14 × Unit) × Unit) :=
 (S74 k a).bind fun q0 =>
 (bif q0.1.1 != 0 then
  some ((0, 0, [], ()), ())
 else
  (S164 k a.2.2.2.1).bind fun q1 =>
  (S164 k a.2.2.2.2.1).bind fun q2 =>
  (bif q2.1.2.1 then
   (S169 k ([q1.1.1.2.2, q2.1.1.2.2] : List Y0_14)).bind fun q3 =>
   some ((q1.1.1.1, q2.1.1.1, q3.1.1, ()), ())
  else
   (S169 k ([q1.1.1.2.2, q2.1.1.2.2] : List Y0_14)).bind fun q4 =>
   some ((q1.1.1.1, q1.1.1.2.1, q4.1.1, ()), ())))
def F120 : Fn := ⟨[.val ⟨true, Y0_1, false⟩], [.val ⟨false, (.int .i64), true⟩, .val ⟨false, (.int .i64), true⟩, .val ⟨false, (.sl 273 Y0_16), true⟩], fun k x => S120 k x.1⟩
theorem ok120 : FnOK Tryz.prog 120 F120 := okF [(74, F74), (164, F164), (169, F169)] [] (fun k => .nil) ⟨ok74, ok164, ok169, trivial⟩ Tryz.func120 rfl
def S126 (k : Nat) (a : Int) : Option Y0_38 :=
 (bif decide (a < 0) then
  none
 else
  (bif decide ((IntKind.i64.wrap (a - 0)) > 0) then
   az ([] : List Y0_7) (IntKind.i64.wrap (a - 0)) 32 (0, 0, 0, 0) fun r0 =>
   sx r0 0 0 <|
   some ((r0.take 0, ()), ())
  else
   some (([], ()), ())))
def F126 : Fn := ⟨[.pv (.nil), .val ⟨false, (.int .i64), false⟩], [.val ⟨false, Y0_25, true⟩], fun k x => S126 k x.2.1⟩
theorem ok126 : FnOK Tryz.prog 126 F126 := okF [] [(25, 1)] (fun k => .nil) trivial Tryz.func126 rfl
abbrev c84_L11 : Cut := ⟨[6, 25, 26, 27], [.own 24 Y0_6, .cell (.sl 25 Y0_25), cI, cI], [], 36, []⟩
def l84_11 (k : Nat) (g11 : (List Y0_7) → Y0_72 → Int → Int → Option Y0_38) (a : List Y0_7) (b : List (List Y0_7)) (c e : Int) : Option Y0_38 :=
 (bif decide (e < c) then
  ix b e <|
  ap a (rd b e []) 32 fun r1 =>
  g11 r1 b c (IntKind.i64.wrap (e + 1))
 else
  some ((a, ()), ()))
def b84_11 (k : Nat) (g : ((Unit) × (List Y0_7) × Y0_72 × Int × Int × Unit) → Option Y0_38) : ((Unit) × (List Y0_7) × Y0_72 × Int × Int × Unit) → Option Y0_38 := fun (_, a, b, c, e, _) => l84_11 k (fun a b c e => g ((), a, b, c, e, ())) a b c e
def L84_11 (k a : Nat) (b : List Y0_7) (c : List (List Y0_7)) (e f : Int) : Option Y0_38 := iter (R := ((List Y0_7) × Unit) × Unit) c84_L11 (b84_11 k) a ((), b, c, e, f, ())
theorem L84_11_s (k a b c e f) : L84_11 k (a + 1) b c e f = l84_11 k (L84_11 k a) b c e f := iter_succ _ _ _ _
abbrev c84_L3 : Cut := ⟨[0, 3, 9, 10, 11], [.cell (.sl 25 Y0_25), cI, .cell (.sl 25 Y0_25), cI, cI], [], 36, []⟩
def l84_3 (k : Nat) (g3 : Y0_72 → Int → Y0_72 → Int → Int → Option Y0_38) (a : List (List Y0_7)) (b : Int) (c : List (List Y0_7)) (e f : Int) : Option Y0_38 :=
 (bif decide (f < e) then
  ix c f <|
  (bif decide ((IntKind.i64.wrap (b + ((rd c f []).length : Int))) < 0) then
   none
  else
   g3 a (IntKind.i64.wrap (b + ((rd c f []).length : Int))) c e (IntKind.i64.wrap (f + 1)))
 else
  (S126 k b).bind fun q0 =>
  L84_11 k k q0.1.1 a (a.length : Int) 0)
def b84_3 (k : Nat) (g : ((Unit) × Y0_72 × Int × Y0_72 × Int × Int × Unit) → Option Y0_38) : ((Unit) × Y0_72 × Int × Y0_72 × Int × Int × Unit) → Option Y0_38 := fun (_, a, b, c, e, f, _) => l84_3 k (fun a b c e f => g ((), a, b, c, e, f, ())) a b c e f
def L84_3 (k a : Nat) (b : List (List Y0_7)) (c : Int) (e : List (List Y0_7)) (f h : Int) : Option Y0_38 := iter (R := ((List Y0_7) × Unit) × Unit) c84_L3 (b84_3 k) a ((), b, c, e, f, h, ())
theorem L84_3_s (k a b c e f h) : L84_3 k (a + 1) b c e f h = l84_3 k (L84_3 k a) b c e f h := iter_succ _ _ _ _
def S84 (k : Nat) (a : List (List Y0_7)) : Option Y0_38 :=
 L84_3 k k a 0 a (a.length : Int) 0
def F84 : Fn := ⟨[.val ⟨false, (.sl 25 Y0_25), false⟩], [.val ⟨false, Y0_25, true⟩], fun k x => S84 k x.1⟩
theorem ok84 : FnOK Tryz.prog 84 F84 := okF [(126, F126)] [] (fun k => (.loop 11 c84_L11 (b84_11 k) (fun g => .nil) (.loop 3 c84_L3 (b84_3 k) (fun g => .nil) .nil))) ⟨ok126, trivial⟩ Tryz.func84 rfl
def S128 (k : Nat) (a : Int × Int × Int × Int) (b : Int) : Option Y0_15 :=
 (bif a.1 == 9 then
  some ((a.2.1 == b, ()), ())
 else
  some ((false, ()), ()))
def F128 : Fn := ⟨[.val ⟨true, Y0_6, false⟩, .pv (.ref (.int .i64))], [.val ⟨false, .bool, true⟩], fun k x => S128 k x.1 x.2.1⟩
theorem ok128 : FnOK Tryz.prog 128 F128 := okF [] [] (fun k => .nil) trivial Tryz.func128 rfl
abbrev c125c_L2 : Cut := ⟨[0, 1, 7, 8], [.cell Y0_25, .clo 128 [.ref (.int .i64)], cI, cI], [], 19, []⟩
def l125c_2 (k : Nat) (g2 : (List Y0_7) → Int → Int → Int → Option Y0_12) (a : List Y0_7) (b c e : Int) : Option Y0_12 :=
 (bif decide (e < c) then
  ix a e <|
  (S128 k (rd a e (0, 0, 0, 0)) b).bind fun q0 =>
  (bif q0.1.1 then
   some ((e, ()), ())
  else
   g2 a b c (IntKind.i64.wrap (e + 1)))
 else
  some (((-1), ()), ()))
def b125c_2 (k : Nat) (g : ((Unit) × (List Y0_7) × Y0_53 × Int × Int × Unit) → Option Y0_12) : ((Unit) × (List Y0_7) × Y0_53 × Int × Int × Unit) → Option Y0_12 := fun (_, a, (b, _), c, e, _) => l125c_2 k (fun a b c e => g ((), a, (b, ()), c, e, ())) a b c e
def L125c_2 (k a : Nat) (b : List Y0_7) (c e f : Int) : Option Y0_12 := iter (R := Y0_53 × Unit) c125c_L2 (b125c_2 k) a ((), b, (c, ()), e, f, ())
theorem L125c_2_s (k a b c e f) : L125c_2 k (a + 1) b c e f = l125c_2 k (L125c_2 k a) b c e f := iter_succ _ _ _ _
def S125c (k : Nat) (a : List Y0_7) (b : Int) : Option Y0_12 :=
 L125c_2 k k a b (a.length : Int) 0
def F125c : Fn := ⟨[.val ⟨false, Y0_25, false⟩, .pv (.clo 128 [.ref (.int .i64)])], [.val ⟨false, (.int .i64), true⟩], fun k x => S125c k x.1 x.2.1.1⟩
theorem ok125c : FnOK Tryz.prog 125 F125c := okF [(128, F128)] [] (fun k => (.loop 2 c125c_L2 (b125c_2 k) (fun g => .nil) .nil)) ⟨ok128, trivial⟩ Tryz.func125 rfl
def S83b (k : Nat) (a : List Y0_7) (b : Int) : Option Y0_15 :=
 (S125c k a b).bind fun q0 =>
 some ((decide (q0.1.1 ≥ 0), ()), ())
def F83b : Fn := ⟨[.val ⟨false, Y0_25, false⟩, .pv (.clo 128 [.ref (.int .i64)])], [.val ⟨false, .bool, true⟩], fun k x => S83b k x.1 x.2.1.1⟩
theorem ok83b : FnOK Tryz.prog 83 F83b := okF [(125, F125c)] [] (fun k => .nil) ⟨ok125c, trivial⟩ Tryz.func83 rfl
def S127 (k : Nat) (a : Y0_28) (b : Int) : Option Y0_15 :=
 (S84 k ([a.2.2.2.1, a.2.2.2.2.1] : List (List Y0_7))).bind fun q0 =>
 (S83b k q0.1.1 b).bind fun q1 =>
 some ((q1.1.1, ()), ())
def F127 : Fn := ⟨[.val ⟨true, Y0_1, false⟩, .pv (.ref (.int .i64))], [.val ⟨false, .bool, true⟩], fun k x => S127 k x.1 x.2.1⟩
theorem ok127 : FnOK Tryz.prog 127 F127 := okF [(83, F83b), (84, F84)] [] (fun k => .nil) ⟨ok83b, ok84, trivial⟩ Tryz.func127 rfl
abbrev c76a_L2 : Cut := ⟨[0, 1, 7, 8], [.cell Y0_39, .clo 127 [.ref (.int .i64)], cI, cI], [], 19, []⟩
def l76a_2 (k : Nat) (g2 : (List Y0_0) → Int → Int → Int → Option Y0_12) (a : List Y0_0) (b c e : Int) : Option Y0_12 :=
 (bif decide (e < c) then
  ix a e <|
  (S127 k (rd a e (0, 0, 0, [], [], [])) b).bind fun q0 =>
  (bif q0.1.1 then
   some ((e, ()), ())
  else
   g2 a b c (IntKind.i64.wrap (e + 1)))
 else
  some (((-1), ()), ()))
def b76a_2 (k : Nat) (g : ((Unit) × (List Y0_0) × Y0_53 × Int × Int × Unit) → Option Y0_12) : ((Unit) × (List Y0_0) × Y0_53 × Int × Int × Unit) → Option Y0_12 := fun (_, a, (b, _), c, e, _) => l76a_2 k (fun a b c e => g ((), a, (b, ()), c, e, ())) a b c e
def L76a_2 (k a : Nat) (b : List Y0_0) (c e f : Int) : Option Y0_12 := iter (R := Y0_53 × Unit) c76a_L2 (b76a_2 k) a ((), b, (c, ()), e, f, ())
theorem L76a_2_s (k a b c e f) : L76a_2 k (a + 1) b c e f = l76a_2 k (L76a_2 k a) b c e f := iter_succ _ _ _ _
def S76a (k : Nat) (a : List Y0_0) (b : Int) : Option Y0_12 :=
 L76a_2 k k a b (a.length : Int) 0
def F76a : Fn := ⟨[.val ⟨false, Y0_39, false⟩, .pv (.clo 127 [.ref (.int .i64)])], [.val ⟨false, (.int .i64), true⟩], fun k x => S76a k x.1 x.2.1.1⟩
theorem ok76a : FnOK Tryz.prog 76 F76a := okF [(127, F127)] [] (fun k => (.loop 2 c76a_L2 (b76a_2 k) (fun g => .nil) .nil)) ⟨ok127, trivial⟩ Tryz.func76 rfl
def S86 (k : Nat) (a : List Y0_0) (b : Int) : Option Y0_12 :=
 (S76a k a b).bind fun q0 =>
 (bif decide (q0.1.1 < 0) then
  some ((8, ()), ())
 else
  some ((q0.1.1, ()), ()))
def F86 : Fn := ⟨[.val ⟨false, Y0_39, false⟩, .val ⟨false, (.int .i64), false⟩], [.val ⟨false, (.int .i64), true⟩], fun k x => S86 k x.1 x.2.1⟩
theorem ok86 : FnOK Tryz.prog 86 F86 := okF [(76, F76a)] [] (fun k => .nil) ⟨ok76a, trivial⟩ Tryz.func86 rfl
abbrev c121_J13 : Cut := ⟨[0, 1, 4, 5, 12, 16, 17, 18, 32, 33, 34], [.cell Y0_39, cI, cI, .mp 274 true (.int .i64) false (.int .i64), .box 273 [cI, cI], .cell Y0_39, cI, cI, .own 273 Y0_16, cI, cI], [], 70, []⟩
def j121_13 (k : Nat) (g3 : Y0_30) (g8 : Y0_49) (a : List Y0_0) (b c : Int) (e : Y0_31) (x f : Int) (h : List Y0_0) (i l : Int) (m : Y0_31) (n o : Int) : Option Y0_12 :=
 (bif decide ((mget (.int .i64) (.int .i64) x e 0) ≤ b) then
  g8 a b (mx c f) e h i l m n (IntKind.i64.wrap (o + 1))
 else
  g8 a b c e h i l m n (IntKind.i64.wrap (o + 1)))
abbrev c121_L8 : Cut := ⟨[0, 1, 4, 5, 16, 17, 18, 32, 33, 34], [.cell Y0_39, cI, cI, .mp 274 true (.int .i64) false (.int .i64), .cell Y0_39, cI, cI, .own 273 Y0_16, cI, cI], [], 70, []⟩
def l121_8 (k : Nat) (g3 : Y0_30) (g8 : Y0_49) (a : List Y0_0) (b c : Int) (e : Y0_31) (f : List Y0_0) (h i : Int) (l : Y0_31) (m n : Int) : Option Y0_12 :=
 (bif decide (n < m) then
  ix l n <|
  (bif !(mhas (.int .i64) (.int .i64) (rd l n (0, 0)).1 e) then
   (S86 k a (rd l n (0, 0)).1).bind fun q1 =>
   j121_13 k g3 g8 a b c (updD (.int .i64) (.int .i64) (rd l n (0, 0)).1 q1.1.1 e) (rd l n (0, 0)).1 (rd l n (0, 0)).2 f h i l m n
  else
   j121_13 k g3 g8 a b c e (rd l n (0, 0)).1 (rd l n (0, 0)).2 f h i l m n)
 else
  g3 a b c e f h (IntKind.i64.wrap (i + 1)))
def b121_8 (k : Nat) (g3 : Y0_30) (g : ((Unit) × (List Y0_0) × Int × Int × Y0_14 × (List Y0_0) × Int × Int × Y0_14 × Int × Int × Unit) → Option Y0_12) : ((Unit) × (List Y0_0) × Int × Int × Y0_14 × (List Y0_0) × Int × Int × Y0_14 × Int × Int × Unit) → Option Y0_12 := fun (_, a, b, c, e, f, h, i, l, m, n, _) => l121_8 k g3 (fun a b c e f h i l m n => g ((), a, b, c, e, f, h, i, l, m, n, ())) a b c e f h i l m n
def L121_8 (k : Nat) (g3 : Y0_30) (a : Nat) (b : List Y0_0) (c e : Int) (f : Y0_31) (h : List Y0_0) (i l : Int) (m : Y0_31) (n o : Int) : Option Y0_12 := iter (R := Y0_53 × Unit) c121_L8 (b121_8 k g3) a ((), b, c, e, f, h, i, l, m, n, o, ())
theorem L121_8_s (k g3 a b c e f h i l m n o) : L121_8 k g3 (a + 1) b c e f h i l m n o = l121_8 k g3 (L121_8 k g3 a) b c e f h i l m n o := iter_succ _ _ _ _
abbrev c121_L3 : Cut := ⟨[0, 1, 4, 5, 16, 17, 18], [.cell Y0_39, cI, cI, .mp 274 true (.int .i64) false (.int .i64), .cell Y0_39, cI, cI], [], 70, []⟩
def l121_3 (k : Nat) (g3 : Y0_30) (a : List Y0_0) (b c : Int) (e : Y0_31) (f : List Y0_0) (h i : Int) : Option Y0_12 :=
 (bif decide (i < h) then
  ix f i <|
  (bif i == b then
   g3 a b c e f h (IntKind.i64.wrap (i + 1))
  else
   (S120 k (rd f i (0, 0, 0, [], [], []))).bind fun q0 =>
   L121_8 k g3 k a b c e f h i q0.1.2.2.1 (q0.1.2.2.1.length : Int) 0)
 else
  some ((c, ()), ()))
def b121_3 (k : Nat) (g : ((Unit) × (List Y0_0) × Int × Int × Y0_14 × (List Y0_0) × Int × Int × Unit) → Option Y0_12) : ((Unit) × (List Y0_0) × Int × Int × Y0_14 × (List Y0_0) × Int × Int × Unit) → Option Y0_12 := fun (_, a, b, c, e, f, h, i, _) => l121_3 k (fun a b c e f h i => g ((), a, b, c, e, f, h, i, ())) a b c e f h i
def L121_3 (k a : Nat) (b : List Y0_0) (c e : Int) (f : Y0_31) (h : List Y0_0) (i l : Int) : Option Y0_12 := iter (R := Y0_53 × Unit) c121_L3 (b121_3 k) a ((), b, c, e, f, h, i, l, ())
theorem L121_3_s (k a b c e f h i l) : L121_3 k (a + 1) b c e f h i l = l121_3 k (L121_3 k a) b c e f h i l := iter_succ _ _ _ _
def S121 (k : Nat) (a : List Y0_0) (b : Int) : Option Y0_12 :=
 L121_3 k k a b 0 ([] : List (Int × Int)) a (a.length : Int) 0
def F121 : Fn := ⟨[.val ⟨false, Y0_39, false⟩, .val ⟨false, (.int .i64), false⟩], [.val ⟨false, (.int .i64), true⟩], fun k x => S121 k x.1 x.2.1⟩
theorem ok121 : FnOK Tryz.prog 121 F121 := okF [(86, F86), (120, F120)] [] (fun k => (.loop 3 c121_L3 (b121_3 k) (fun g => (fun (g3 : Y0_30) => (.loop 8 c121_L8 (b121_8 k g3) (fun g => (fun (g8 : Y0_49) => (.join 13 c121_J13 (fun d => j121_13 k g3 g8 d.2.1 d.2.2.1 d.2.2.2.1 d.2.2.2.2.1 d.2.2.2.2.2.1.1 d.2.2.2.2.2.1.2.1 d.2.2.2.2.2.2.1 d.2.2.2.2.2.2.2.1 d.2.2.2.2.2.2.2.2.1 d.2.2.2.2.2.2.2.2.2.1 d.2.2.2.2.2.2.2.2.2.2.1 d.2.2.2.2.2.2.2.2.2.2.2.1) .nil)) (fun l_2 i2 most1 ceils1 t16_1 t17_1 t18_1 t32 t33 t34 => g ((), l_2, i2, most1, ceils1, t16_1, t17_1, t18_1, t32, t33, t34, ()))) .nil)) (fun l_1 i1 most ceils t16 t17 t18 => g ((), l_1, i1, most, ceils, t16, t17, t18, ()))) .nil)) ⟨ok86, ok120, trivial⟩ Tryz.func121 rfl
def S167 (k : Nat) (a : Int) (b : Bool) (c e : Int) : Option ((Unit) × Y0_69 × Unit) :=
 (S190 k c e).bind fun q0 =>
 (S191 k a q0.1.1).bind fun q1 =>
 (bif b then
  some ((), (q1.1.1, true, ()), ())
 else
  (bif !q0.1.2.1 then
   some ((), (q1.1.1, true, ()), ())
  else
   some ((), (q1.1.1, !q1.1.2.1, ()), ())))
def F167 : Fn := ⟨[.mbox 268 [cI, .cell .bool], .val ⟨false, (.int .i64), false⟩, .val ⟨false, (.int .i64), false⟩], [], fun k ((a, b, _), c, e, _) => S167 k a b c e⟩
theorem ok167 : FnOK Tryz.prog 167 F167 := okF [(190, F190), (191, F191)] [] (fun k => .nil) ⟨ok190, ok191, trivial⟩ Tryz.func167 rfl
def S192 (k : Nat) (a b : Int) : Option Y0_34 :=
 (bif decide (b < 1) then
  some ((0, false, ()), ())
 else
  (bif decide (a < 0) then
   some ((0, false, ()), ())
  else
   nz b <|
   nz b <|
   (bif decide ((Int.tmod a b) > 0) then
    some ((IntKind.i64.wrap ((IntKind.i64.wrap (Int.tdiv a b)) + 1), true, ()), ())
   else
    some ((IntKind.i64.wrap (Int.tdiv a b), true, ()), ()))))
def F192 : Fn := ⟨[.val ⟨false, (.int .i64), false⟩, .val ⟨false, (.int .i64), false⟩], [.val ⟨false, (.int .i64), true⟩, .val ⟨false, .bool, true⟩], fun k x => S192 k x.1 x.2.1⟩
theorem ok192 : FnOK Tryz.prog 192 F192 := okF [] [] (fun k => .nil) trivial Tryz.func192 rfl
def S168 (k : Nat) (a b : Int) : Option Y0_12 :=
 (S192 k a b).bind fun q0 =>
 some ((q0.1.1, ()), ())
def F168 : Fn := ⟨[.val ⟨false, (.int .i64), false⟩, .val ⟨false, (.int .i64), false⟩], [.val ⟨false, (.int .i64), true⟩], fun k x => S168 k x.1 x.2.1⟩
theorem ok168 : FnOK Tryz.prog 168 F168 := okF [(192, F192)] [] (fun k => .nil) ⟨ok192, trivial⟩ Tryz.func168 rfl
abbrev c119_L18 : Cut := ⟨[0, 1, 2, 6, 7, 12, 18, 19, 88, 89, 90], [.cell Y0_39, cI, cI, cI, cI, cI, .box 268 [cI, .cell .bool], .box 268 [cI, .cell .bool], .cell Y0_39, cI, cI], [], 128, []⟩
def l119_18 (k : Nat) (g14 : Y0_36) (g18 : (List Y0_0) → Int → Int → Int → Int → Int → Int → Bool → Int → Bool → (List Y0_0) → Int → Int → Option Y0_23) (a : List Y0_0) (b c e f h i : Int) (l : Bool) (m : Int) (n : Bool) (o : List Y0_0) (p s : Int) : Option Y0_23 :=
 (bif decide (s < p) then
  ix o s <|
  (S120 k (rd o s (0, 0, 0, [], [], []))).bind fun q7 =>
  (S168 k e (rd o s (0, 0, 0, [], [], [])).2.1).bind fun q8 =>
  (S167 k m n q8.1.1 q7.1.1).bind fun q9 =>
  g18 a b c e f h i l q9.2.1.1 q9.2.1.2.1 o p (IntKind.i64.wrap (s + 1))
 else
  (bif n then
   some ((0, 0, 13, ()), ())
  else
   ix a b <|
   (bif decide (m > (rd a b (0, 0, 0, [], [], [])).2.2.1) then
    some ((0, 0, 14, ()), ())
   else
    (bif m == e then
     some ((e, f, 0, ()), ())
    else
     g14 a b c m f h i l))))
def b119_18 (k : Nat) (g14 : Y0_36) (g : ((Unit) × (List Y0_0) × Int × Int × Int × Int × Int × Y0_69 × Y0_69 × (List Y0_0) × Int × Int × Unit) → Option Y0_23) : ((Unit) × (List Y0_0) × Int × Int × Int × Int × Int × Y0_69 × Y0_69 × (List Y0_0) × Int × Int × Unit) → Option Y0_23 := fun (_, a, b, c, e, f, h, (i, l, _), (m, n, _), o, p, s, _) => l119_18 k g14 (fun a b c e f h i l m n o p s => g ((), a, b, c, e, f, h, (i, l, ()), (m, n, ()), o, p, s, ())) a b c e f h i l m n o p s
def L119_18 (k : Nat) (g14 : Y0_36) (a : Nat) (b : List Y0_0) (c e f h i l : Int) (m : Bool) (n : Int) (o : Bool) (p : List Y0_0) (s t : Int) : Option Y0_23 := iter (R := (Int × Int × Int × Unit) × Unit) c119_L18 (b119_18 k g14) a ((), b, c, e, f, h, i, (l, m, ()), (n, o, ()), p, s, t, ())
theorem L119_18_s (k g14 a b c e f h i l m n o p s t) : L119_18 k g14 (a + 1) b c e f h i l m n o p s t = l119_18 k g14 (L119_18 k g14 a) b c e f h i l m n o p s t := iter_succ _ _ _ _
abbrev c119_L14 : Cut := ⟨[0, 1, 2, 6, 7, 12, 18], [.cell Y0_39, cI, cI, cI, cI, cI, .box 268 [cI, .cell .bool]], [], 128, []⟩
def l119_14 (k : Nat) (g14 : Y0_36) (a : List Y0_0) (b c e f h i : Int) (l : Bool) : Option Y0_23 :=
 (S168 k e c).bind fun q5 =>
 (S167 k i l q5.1.1 h).bind fun q6 =>
 sx a 0 b <|
 L119_18 k g14 k a b c e (IntKind.i64.wrap (f + 1)) h i l q6.2.1.1 q6.2.1.2.1 (sub a 0 b) ((sub a 0 b).length : Int) 0
def b119_14 (k : Nat) (g : ((Unit) × (List Y0_0) × Int × Int × Int × Int × Int × Y0_69 × Unit) → Option Y0_23) : ((Unit) × (List Y0_0) × Int × Int × Int × Int × Int × Y0_69 × Unit) → Option Y0_23 := fun (_, a, b, c, e, f, h, (i, l, _), _) => l119_14 k (fun a b c e f h i l => g ((), a, b, c, e, f, h, (i, l, ()), ())) a b c e f h i l
def L119_14 (k a : Nat) (b : List Y0_0) (c e f h i l : Int) (m : Bool) : Option Y0_23 := iter (R := (Int × Int × Int × Unit) × Unit) c119_L14 (b119_14 k) a ((), b, c, e, f, h, i, (l, m, ()), ())
theorem L119_14_s (k a b c e f h i l m) : L119_14 k (a + 1) b c e f h i l m = l119_14 k (L119_14 k a) b c e f h i l m := iter_succ _ _ _ _
abbrev c119_L6 : Cut := ⟨[0, 1, 2, 7, 9, 12, 54, 55, 56], [.cell Y0_39, cI, cI, cI, cI, cI, .cell Y0_39, cI, cI], [], 128, []⟩
def l119_6 (k : Nat) (g6 : (List Y0_0) → Int → Int → Int → Int → Int → (List Y0_0) → Int → Int → Option Y0_23) (a : List Y0_0) (b c e f h : Int) (i : List Y0_0) (l m : Int) : Option Y0_23 :=
 (bif decide (m < l) then
  ix i m <|
  (S120 k (rd i m (0, 0, 0, [], [], []))).bind fun q2 =>
  g6 a b c e f (mx h q2.1.2.1) i l (IntKind.i64.wrap (m + 1))
 else
  (S121 k a b).bind fun q3 =>
  (S167 k f false 1 q3.1.1).bind fun q4 =>
  L119_14 k k a b c q4.2.1.1 e h q4.2.1.1 q4.2.1.2.1)
def b119_6 (k : Nat) (g : ((Unit) × (List Y0_0) × Int × Int × Int × Int × Int × (List Y0_0) × Int × Int × Unit) → Option Y0_23) : ((Unit) × (List Y0_0) × Int × Int × Int × Int × Int × (List Y0_0) × Int × Int × Unit) → Option Y0_23 := fun (_, a, b, c, e, f, h, i, l, m, _) => l119_6 k (fun a b c e f h i l m => g ((), a, b, c, e, f, h, i, l, m, ())) a b c e f h i l m
def L119_6 (k a : Nat) (b : List Y0_0) (c e f h i : Int) (l : List Y0_0) (m n : Int) : Option Y0_23 := iter (R := (Int × Int × Int × Unit) × Unit) c119_L6 (b119_6 k) a ((), b, c, e, f, h, i, l, m, n, ())
theorem L119_6_s (k a b c e f h i l m n) : L119_6 k (a + 1) b c e f h i l m n = l119_6 k (L119_6 k a) b c e f h i l m n := iter_succ _ _ _ _
def S119 (k : Nat) (a : List Y0_0) (b c : Int) : Option Y0_23 :=
 (S166 k a).bind fun q0 =>
 (bif !q0.1.1 then
  some ((0, 0, 1, ()), ())
 else
  (bif decide (b < 0) then
   some ((0, 0, 1, ()), ())
  else
   (bif decide (b ≥ (a.length : Int)) then
    some ((0, 0, 1, ()), ())
   else
    (bif decide (c < 1) then
     some ((0, 0, 1, ()), ())
    else
     ix a b <|
     (S120 k (rd a b (0, 0, 0, [], [], []))).bind fun q1 =>
     sx a 0 (IntKind.i64.wrap (b + 1)) <|
     L119_6 k k a b c 0 q1.1.1 0 (sub a 0 (IntKind.i64.wrap (b + 1))) ((sub a 0 (IntKind.i64.wrap (b + 1))).length : Int) 0))))
def F119 : Fn := ⟨[.val ⟨false, Y0_39, false⟩, .val ⟨false, (.int .i64), false⟩, .val ⟨false, (.int .i64), false⟩], [.val ⟨false, (.int .i64), true⟩, .val ⟨false, (.int .i64), true⟩, .val ⟨false, (.int .i64), true⟩], fun k (a, b, c, _) => S119 k a b c⟩
theorem ok119 : FnOK Tryz.prog 119 F119 := okF [(120, F120), (121, F121), (166, F166), (167, F167), (168, F168)] [] (fun k => (.loop 14 c119_L14 (b119_14 k) (fun g => (fun (g14 : Y0_36) => (.loop 18 c119_L18 (b119_18 k g14) (fun g => .nil) .nil)) (fun l_2 i2 apart2 r_ rounds1 lost1 first first1 => g ((), l_2, i2, apart2, r_, rounds1, lost1, (first, first1, ()), ()))) (.loop 6 c119_L6 (b119_6 k) (fun g => .nil) .nil))) ⟨ok120, ok121, ok166, ok167, ok168, trivial⟩ Tryz.func119 rfl
abbrev c79_L4 : Cut := ⟨[0, 1, 4, 16, 17, 18], [.cell Y0_39, cI, .own 134 Y0_35, .cell Y0_39, cI, cI], [], 56, []⟩
def l79_4 (k : Nat) (g4 : (List Y0_0) → Int → Y0_68 → (List Y0_0) → Int → Int → Option Y0_54) (a : List Y0_0) (b : Int) (c : List (PN Int 5)) (e : List Y0_0) (f h : Int) : Option Y0_54 :=
 (bif decide (h < f) then
  ix e h <|
  (S119 k a h b).bind fun q0 =>
  (bif q0.1.2.2.1 != 0 then
   some ((([] : List (PN Int 5)), q0.1.2.2.1, ()), ())
  else
   (S120 k (rd e h (0, 0, 0, [], [], []))).bind fun q1 =>
   (S121 k a h).bind fun q2 =>
   ap c ([(q1.1.1, q1.1.2.1, q2.1.1, q0.1.1, IntKind.i64.wrap ((rd e h (0, 0, 0, [], [], [])).2.2.1 - q0.1.1))] : List (PN Int 5)) 40 fun r3 =>
   g4 a b r3 e f (IntKind.i64.wrap (h + 1)))
 else
  some ((c, 0, ()), ()))
def b79_4 (k : Nat) (g : ((Unit) × (List Y0_0) × Int × Y0_68 × (List Y0_0) × Int × Int × Unit) → Option Y0_54) : ((Unit) × (List Y0_0) × Int × Y0_68 × (List Y0_0) × Int × Int × Unit) → Option Y0_54 := fun (_, a, b, c, e, f, h, _) => l79_4 k (fun a b c e f h => g ((), a, b, c, e, f, h, ())) a b c e f h
def L79_4 (k a : Nat) (b : List Y0_0) (c : Int) (e : List (PN Int 5)) (f : List Y0_0) (h i : Int) : Option Y0_54 := iter (R := (Y0_68 × Int × Unit) × Unit) c79_L4 (b79_4 k) a ((), b, c, e, f, h, i, ())
theorem L79_4_s (k a b c e f h i) : L79_4 k (a + 1) b c e f h i = l79_4 k (L79_4 k a) b c e f h i := iter_succ _ _ _ _
def S79 (k : Nat) (a : List Y0_0) (b : Int) : Option Y0_54 :=
 (bif decide (b < 1) then
  some ((([] : List (PN Int 5)), 1, ()), ())
 else
  L79_4 k k a b ([] : List (PN Int 5)) a (a.length : Int) 0)
def F79 : Fn := ⟨[.val ⟨false, Y0_39, false⟩, .val ⟨false, (.int .i64), false⟩], [.val ⟨false, (.sl 134 Y0_35), true⟩, .val ⟨false, (.int .i64), true⟩], fun k x => S79 k x.1 x.2.1⟩
theorem ok79 : FnOK Tryz.prog 79 F79 := okF [(119, F119), (120, F120), (121, F121)] [(4, 2)] (fun k => (.loop 4 c79_L4 (b79_4 k) (fun g => .nil) .nil)) ⟨ok119, ok120, ok121, trivial⟩ Tryz.func79 rfl
abbrev c40_J23 : Cut := ⟨[2, 4, 13, 16], [cI, .box 27 [cI, cI, cI, .cell Y0_25, .cell Y0_25, .cell Y0_25], .own 27 Y0_1, cI], [], 82, []⟩
def j40_23 (k : Nat) (a b c e : Int) (f h i : List Y0_7) (l : List Y0_0) (m : Int) : Option Y0_24 :=
 (S75 k (b, c, e, f, h, i)).bind fun q4 =>
 (S78 k l m ([q4.1.1] : List Y0_0)).bind fun q5 =>
 (S79 k q5.1.1 a).bind fun q6 =>
 (bif q6.1.2.1 != 0 then
  some (([], [], q6.1.2.1, ()), ())
 else
  some ((q5.1.1, q6.1.1, 0, ()), ()))
abbrev c40_L16 : Cut := ⟨[2, 4, 13, 46, 47, 48], [cI, .box 27 [cI, cI, cI, .cell Y0_25, .cell Y0_25, .cell Y0_25], .own 27 Y0_1, .cell Y0_39, cI, cI], [], 82, []⟩
def l40_16 (k : Nat) (g16 : Int → Int → Int → Int → (List Y0_7) → (List Y0_7) → (List Y0_7) → (List Y0_0) → (List Y0_0) → Int → Int → Option Y0_24) (a b c e : Int) (f h i : List Y0_7) (l m : List Y0_0) (n o : Int) : Option Y0_24 :=
 (bif decide (o < n) then
  ix m o <|
  (S75 k (rd m o (0, 0, 0, [], [], []))).bind fun q1 =>
  ap l ([q1.1.1] : List Y0_0) 96 fun r2 =>
  g16 a b c e f h i r2 m n (IntKind.i64.wrap (o + 1))
 else
  (S76 k l (b, c, e, f, h, i)).bind fun q3 =>
  (bif decide (q3.1.1 < 0) then
   j40_23 k a b c e f h i l (l.length : Int)
  else
   j40_23 k a b c e f h i l q3.1.1))
def b40_16 (k : Nat) (g : ((Unit) × Int × Y0_52 × (List Y0_0) × (List Y0_0) × Int × Int × Unit) → Option Y0_24) : ((Unit) × Int × Y0_52 × (List Y0_0) × (List Y0_0) × Int × Int × Unit) → Option Y0_24 := fun (_, a, (b, c, e, f, h, i, _), l, m, n, o, _) => l40_16 k (fun a b c e f h i l m n o => g ((), a, (b, c, e, f, h, i, ()), l, m, n, o, ())) a b c e f h i l m n o
def L40_16 (k a : Nat) (b c e f : Int) (h i l : List Y0_7) (m n : List Y0_0) (o p : Int) : Option Y0_24 := iter (R := ((List Y0_0) × Y0_68 × Int × Unit) × Unit) c40_L16 (b40_16 k) a ((), b, (c, e, f, h, i, l, ()), m, n, o, p, ())
theorem L40_16_s (k a b c e f h i l m n o p) : L40_16 k (a + 1) b c e f h i l m n o p = l40_16 k (L40_16 k a) b c e f h i l m n o p := iter_succ _ _ _ _
abbrev c40_L3 : Cut := ⟨[0, 2, 4, 9, 20, 21, 22], [.cell Y0_39, cI, .box 27 [cI, cI, cI, .cell Y0_25, .cell Y0_25, .cell Y0_25], .mp 160 true (.int .i64) false .bool, .cell Y0_39, cI, cI], [], 82, []⟩
def l40_3 (k : Nat) (g3 : (List Y0_0) → Int → Int → Int → Int → (List Y0_7) → (List Y0_7) → (List Y0_7) → (List (Int × Bool)) → (List Y0_0) → Int → Int → Option Y0_24) (a : List Y0_0) (b c e f : Int) (h i l : List Y0_7) (m : List (Int × Bool)) (n : List Y0_0) (o p : Int) : Option Y0_24 :=
 (bif decide (p < o) then
  ix n p <|
  g3 a b c e f h i l (updD (.int .i64) .bool (rd n p (0, 0, 0, [], [], [])).1 true m) n o (IntKind.i64.wrap (p + 1))
 else
  (S74 k (c, e, f, h, i, l)).bind fun q0 =>
  (bif q0.1.1 != 0 then
   some (([], [], q0.1.1, ()), ())
  else
   (bif mget (.int .i64) .bool c m false then
    some (([], [], 11, ()), ())
   else
    (bif decide ((a.length : Int) ≥ 8) then
     some (([], [], 4, ()), ())
    else
     L40_16 k k b c e f h i l ([] : List Y0_0) a (a.length : Int) 0))))
def b40_3 (k : Nat) (g : ((Unit) × (List Y0_0) × Int × Y0_52 × (List (Int × Bool)) × (List Y0_0) × Int × Int × Unit) → Option Y0_24) : ((Unit) × (List Y0_0) × Int × Y0_52 × (List (Int × Bool)) × (List Y0_0) × Int × Int × Unit) → Option Y0_24 := fun (_, a, b, (c, e, f, h, i, l, _), m, n, o, p, _) => l40_3 k (fun a b c e f h i l m n o p => g ((), a, b, (c, e, f, h, i, l, ()), m, n, o, p, ())) a b c e f h i l m n o p
def L40_3 (k a : Nat) (b : List Y0_0) (c e f h : Int) (i l m : List Y0_7) (n : List (Int × Bool)) (o : List Y0_0) (p s : Int) : Option Y0_24 := iter (R := ((List Y0_0) × Y0_68 × Int × Unit) × Unit) c40_L3 (b40_3 k) a ((), b, c, (e, f, h, i, l, m, ()), n, o, p, s, ())
theorem L40_3_s (k a b c e f h i l m n o p s) : L40_3 k (a + 1) b c e f h i l m n o p s = l40_3 k (L40_3 k a) b c e f h i l m n o p s := iter_succ _ _ _ _
def S40 (k : Nat) (a : List Y0_0) (b : Y0_28) (c : Int) : Option Y0_24 :=
 L40_3 k k a c b.1 b.2.1 b.2.2.1 b.2.2.2.1 b.2.2.2.2.1 b.2.2.2.2.2 ([] : List (Int × Bool)) a (a.length : Int) 0
def F40 : Fn := ⟨[.val ⟨false, Y0_39, false⟩, .val ⟨true, Y0_1, false⟩, .val ⟨false, (.int .i64), false⟩], [.val ⟨false, Y0_39, true⟩, .val ⟨false, (.sl 134 Y0_35), true⟩, .val ⟨false, (.int .i64), true⟩], fun k (a, b, c, _) => S40 k a b c⟩
theorem ok40 : FnOK Tryz.prog 40 F40 := okF [(74, F74), (75, F75), (76, F76), (78, F78), (79, F79)] [(13, 2)] (fun k => (.join 23 c40_J23 (fun d => j40_23 k d.2.1 d.2.2.1.1 d.2.2.1.2.1 d.2.2.1.2.2.1 d.2.2.1.2.2.2.1 d.2.2.1.2.2.2.2.1 d.2.2.1.2.2.2.2.2.1 d.2.2.2.1 d.2.2.2.2.1) (.loop 16 c40_L16 (b40_16 k) (fun g => .nil) (.loop 3 c40_L3 (b40_3 k) (fun g => .nil) .nil)))) ⟨ok74, ok75, ok76, ok78, ok79, trivial⟩ Tryz.func40 rfl
def S17 (k : Nat) (a b : Int) (c : List Y0_0) (e : List (PN Int 5)) (f h i : Bool) (l : List Y0_3) (m : List Int) (n : List Bool) (o : List Y0_4) (p : List Int) (s : List Bool) (t u v w : Int) (y z A : List Y0_7) (B C D G H : Int) (I : List (PN Int 6)) (J K M N : Int) : Option Y0_67 :=
 (bif f then
  some ((), (a, b, c, e, f, h, i, l, m, n, o, p, s, t, u, v, w, y, z, A, B, C, D, G, H, I, 7, K, M, N, ()), ())
 else
  (S40 k c (u, v, w, y, z, A) b).bind fun q0 =>
  (bif q0.1.2.2.1 == 0 then
   some ((), (a, b, q0.1.1, q0.1.2.1, f, h, i, l, m, n, o, p, s, t, u, v, w, y, z, A, B, C, D, G, H, I, q0.1.2.2.1, K, M, N, ()), ())
  else
   some ((), (a, b, c, e, f, h, i, l, m, n, o, p, s, t, u, v, w, y, z, A, B, C, D, G, H, I, q0.1.2.2.1, K, M, N, ()), ())))
def F17 : Fn := ⟨[.mbox 77 [cI, cI, .cell Y0_39, .cell (.sl 134 Y0_35), .cell .bool, .cell .bool, .cell .bool, .cell (.sl 103 Y0_2), .cell Y0_18, .cell Y0_57, .cell (.sl 95 Y0_5), .cell Y0_18, .cell Y0_57, cI, cI, cI, cI, .cell Y0_25, .cell Y0_25, .cell Y0_25, cI, cI, cI, cI, .cell (.int .u32), .own 58 Y0_65, cI, cI, cI, cI]], [], fun k ((a, b, c, e, f, h, i, l, m, n, o, p, s, t, u, v, w, y, z, A, B, C, D, G, H, I, J, K, M, N, _), _) => S17 k a b c e f h i l m n o p s t u v w y z A B C D G H I J K M N⟩
theorem ok17 : FnOK Tryz.prog 17 F17 := okF [(40, F40)] [] (fun k => .nil) ⟨ok40, trivial⟩ Tryz.func17 rfl
def S51 (k : Nat) (a : List Y0_0) : Option (((List Y0_0) × Unit) × Unit) := cloneSem 96 27 Y0_1 k (a, ())
def F51 : Fn := ⟨clonePs 27 Y0_1, cloneRs 27 Y0_1, cloneSem 96 27 Y0_1⟩
theorem ok51 : FnOK Tryz.prog 51 F51 := clone_ok E0_ok mix Tryz.func51 rfl (by kernel_rfl) (by kernel_rfl) (fun k => by kernel_rfl) (fun k xs => by kernel_rfl) (fun k xs => by kernel_rfl)
def S52 (k : Nat) (a : List (PN Int 5)) : Option ((Y0_68 × Unit) × Unit) := cloneSem 40 134 Y0_35 k (a, ())
def F52 : Fn := ⟨clonePs 134 Y0_35, cloneRs 134 Y0_35, cloneSem 40 134 Y0_35⟩
theorem ok52 : FnOK Tryz.prog 52 F52 := clone_ok E0_ok mix Tryz.func52 rfl (by kernel_rfl) (by kernel_rfl) (fun k => by kernel_rfl) (fun k xs => by kernel_rfl) (fun k xs => by kernel_rfl)
def S53 (k : Nat) (a : List Y0_3) : Option (((List Y0_3) × Unit) × Unit) := cloneSem 272 103 Y0_2 k (a, ())
def F53 : Fn := ⟨clonePs 103 Y0_2, cloneRs 103 Y0_2, cloneSem 272 103 Y0_2⟩
theorem ok53 : FnOK Tryz.prog 53 F53 := clone_ok E0_ok mix Tryz.func53 rfl (by kernel_rfl) (by kernel_rfl) (fun k => by kernel_rfl) (fun k xs => by kernel_rfl) (fun k xs => by kernel_rfl)
def S97 (k : Nat) (a : List (Int × Int × Int)) : Option (((List (Int × Int × Int)) × Unit) × Unit) := cloneSem 24 189 (.pair (.int .i64) Y0_16) k (a, ())
def F97 : Fn := ⟨clonePs 189 (.pair (.int .i64) Y0_16), cloneRs 189 (.pair (.int .i64) Y0_16), cloneSem 24 189 (.pair (.int .i64) Y0_16)⟩
theorem ok97 : FnOK Tryz.prog 97 F97 := clone_ok E0_ok mix Tryz.func97 rfl (by kernel_rfl) (by kernel_rfl) (fun k => by kernel_rfl) (fun k xs => by kernel_rfl) (fun k xs => by kernel_rfl)
def S66 (k : Nat) (a : List Int) : Option Y0_19 := cloneSem 8 3 (.int .i64) k (a, ())
def F66 : Fn := ⟨clonePs 3 (.int .i64), cloneRs 3 (.int .i64), cloneSem 8 3 (.int .i64)⟩
theorem ok66 : FnOK Tryz.prog 66 F66 := clone_ok E0_ok mix Tryz.func66 rfl (by kernel_rfl) (by kernel_rfl) (fun k => by kernel_rfl) (fun k xs => by kernel_rfl) (fun k xs => by kernel_rfl)
def S99 (k : Nat) (a b : Int) : Option Y0_15 :=
 some ((a == b, ()), ())
def F99 : Fn := ⟨[.val ⟨false, (.int .i64), false⟩, .pv (.ref (.int .i64))], [.val ⟨false, .bool, true⟩], fun k x => S99 k x.1 x.2.1⟩
theorem ok99 : FnOK Tryz.prog 99 F99 := okF [] [] (fun k => .nil) trivial Tryz.func99 rfl
abbrev c135c_L2 : Cut := ⟨[0, 1, 7, 8], [.cell Y0_18, .clo 99 [.ref (.int .i64)], cI, cI], [], 19, []⟩
def l135c_2 (k : Nat) (g2 : (List Int) → Int → Int → Int → Option Y0_12) (a : List Int) (b c e : Int) : Option Y0_12 :=
 (bif decide (e < c) then
  ix a e <|
  (S99 k (rd a e 0) b).bind fun q0 =>
  (bif q0.1.1 then
   some ((e, ()), ())
  else
   g2 a b c (IntKind.i64.wrap (e + 1)))
 else
  some (((-1), ()), ()))
def b135c_2 (k : Nat) (g : ((Unit) × (List Int) × Y0_53 × Int × Int × Unit) → Option Y0_12) : ((Unit) × (List Int) × Y0_53 × Int × Int × Unit) → Option Y0_12 := fun (_, a, (b, _), c, e, _) => l135c_2 k (fun a b c e => g ((), a, (b, ()), c, e, ())) a b c e
def L135c_2 (k a : Nat) (b : List Int) (c e f : Int) : Option Y0_12 := iter (R := Y0_53 × Unit) c135c_L2 (b135c_2 k) a ((), b, (c, ()), e, f, ())
theorem L135c_2_s (k a b c e f) : L135c_2 k (a + 1) b c e f = l135c_2 k (L135c_2 k a) b c e f := iter_succ _ _ _ _
def S135c (k : Nat) (a : List Int) (b : Int) : Option Y0_12 :=
 L135c_2 k k a b (a.length : Int) 0
def F135c : Fn := ⟨[.val ⟨false, Y0_18, false⟩, .pv (.clo 99 [.ref (.int .i64)])], [.val ⟨false, (.int .i64), true⟩], fun k x => S135c k x.1 x.2.1.1⟩
theorem ok135c : FnOK Tryz.prog 135 F135c := okF [(99, F99)] [] (fun k => (.loop 2 c135c_L2 (b135c_2 k) (fun g => .nil) .nil)) ⟨ok99, trivial⟩ Tryz.func135 rfl
abbrev c98_L5 : Cut := ⟨[0, 1, 5, 6], [.pin true 0, .clo 99 [.ref (.int .i64)], cI, cI], [.mrow 3 (.int .i64)], 42, []⟩
def l98_5 (k : Nat) (g5 : (List Int) → Int → Int → Int → Option Y0_19) (a : List Int) (b c e : Int) : Option Y0_19 :=
 (bif decide (e < (a.length : Int)) then
  ix a e <|
  (S99 k (rd a e 0) b).bind fun q1 =>
  (bif !q1.1.1 then
   ix a c <|
   g5 (upd a c (rd a e 0)) b (IntKind.i64.wrap (c + 1)) (IntKind.i64.wrap (e + 1))
  else
   g5 a b c (IntKind.i64.wrap (e + 1)))
 else
  sx a c (a.length : Int) <|
  sx (clr a c (a.length : Int) 0) 0 c <|
  some (((clr a c (a.length : Int) 0).take c.toNat, ()), ()))
def b98_5 (k : Nat) (g : (((List Int) × Unit) × Unit × Y0_53 × Int × Int × Unit) → Option Y0_19) : (((List Int) × Unit) × Unit × Y0_53 × Int × Int × Unit) → Option Y0_19 := fun ((a, _), _, (b, _), c, e, _) => l98_5 k (fun a b c e => g ((a, ()), (), (b, ()), c, e, ())) a b c e
def L98_5 (k a : Nat) (b : List Int) (c e f : Int) : Option Y0_19 := iter (R := ((List Int) × Unit) × Unit) c98_L5 (b98_5 k) a ((b, ()), (), (c, ()), e, f, ())
theorem L98_5_s (k a b c e f) : L98_5 k (a + 1) b c e f = l98_5 k (L98_5 k a) b c e f := iter_succ _ _ _ _
def S98 (k : Nat) (a : List Int) (b : Int) : Option Y0_19 :=
 (S135c k a b).bind fun q0 =>
 (bif q0.1.1 == (-1) then
  some ((a, ()), ())
 else
  L98_5 k k a b q0.1.1 (IntKind.i64.wrap (q0.1.1 + 1)))
def F98 : Fn := ⟨[.give 3 (.int .i64), .pv (.clo 99 [.ref (.int .i64)])], [.val ⟨false, Y0_18, true⟩], fun k x => S98 k x.1 x.2.1.1⟩
theorem ok98 : FnOK Tryz.prog 98 F98 := okF [(99, F99), (135, F135c)] [(41, 1)] (fun k => (.loop 5 c98_L5 (b98_5 k) (fun g => .nil) .nil)) ⟨ok99, ok135c, trivial⟩ Tryz.func98 rfl
def S55 (k : Nat) (a : Int × Int × Int × Int × Y0_50 × Y0_50 × (List Int) × Bool) (b : Int) : Option ((Y0_3 × Unit) × Unit) :=
 (S97 k a.2.2.2.2.1.2.2.1).bind fun q0 =>
 (S97 k a.2.2.2.2.2.1.2.2.1).bind fun q1 =>
 (S66 k a.2.2.2.2.2.2.1).bind fun q2 =>
 (S98 k q2.1.1 b).bind fun q3 =>
 some (((a.1, a.2.1, a.2.2.1, a.2.2.2.1, (a.2.2.2.2.1.1, a.2.2.2.2.1.2.1, q0.1.1, a.2.2.2.2.1.2.2.2), (a.2.2.2.2.2.1.1, a.2.2.2.2.2.1.2.1, q1.1.1, a.2.2.2.2.2.1.2.2.2), q3.1.1, a.2.2.2.2.2.2.2), ()), ())
def F55 : Fn := ⟨[.val ⟨true, Y0_2, false⟩, .val ⟨false, (.int .i64), false⟩], [.val ⟨true, Y0_2, true⟩], fun k x => S55 k x.1 x.2.1⟩
theorem ok55 : FnOK Tryz.prog 55 F55 := okF [(66, F66), (97, F97), (98, F98)] [] (fun k => .nil) ⟨ok66, ok97, ok98, trivial⟩ Tryz.func55 rfl
def S67 (k : Nat) (a : List Bool) : Option (((List Bool) × Unit) × Unit) := cloneSem 1 4 .bool k (a, ())
def F67 : Fn := ⟨clonePs 4 .bool, cloneRs 4 .bool, cloneSem 1 4 .bool⟩
theorem ok67 : FnOK Tryz.prog 67 F67 := clone_ok E0_ok mix Tryz.func67 rfl (by kernel_rfl) (by kernel_rfl) (fun k => by kernel_rfl) (fun k xs => by kernel_rfl) (fun k xs => by kernel_rfl)
def S111 (k : Nat) (a : List Int) : Option Y0_19 := cloneSem 8 2 (.int .i64) k (a, ())
def F111 : Fn := ⟨clonePs 2 (.int .i64), cloneRs 2 (.int .i64), cloneSem 8 2 (.int .i64)⟩
theorem ok111 : FnOK Tryz.prog 111 F111 := clone_ok E0_ok mix Tryz.func111 rfl (by kernel_rfl) (by kernel_rfl) (fun k => by kernel_rfl) (fun k xs => by kernel_rfl) (fun k xs => by kernel_rfl)
def S92 (k : Nat) (a : Y0_31) : Option Y0_32 := cloneSem 16 126 Y0_66 k (a, ())
def F92 : Fn := ⟨clonePs 126 Y0_66, cloneRs 126 Y0_66, cloneSem 16 126 Y0_66⟩
theorem ok92 : FnOK Tryz.prog 92 F92 := clone_ok E0_ok mix Tryz.func92 rfl (by kernel_rfl) (by kernel_rfl) (fun k => by kernel_rfl) (fun k xs => by kernel_rfl) (fun k xs => by kernel_rfl)
def S68 (k : Nat) (x : Y0_41) : Option ((Y0_4 × Unit) × Unit) :=
 (S111 k x.2.2.2.1.1).bind fun q0 =>
 (S66 k x.2.2.2.1.2).bind fun q1 =>
 (S92 k x.2.2.2.2.1.2).bind fun q2 =>
 some (((x.1, x.2.1, x.2.2.1, (q0.1.1, q1.1.1), (x.2.2.2.2.1.1, q2.1.1), x.2.2.2.2.2), ()), ())
def F68 : Fn := ⟨[.val ⟨true, Y0_5, false⟩], [.val ⟨true, Y0_5, true⟩], fun k x => S68 k x.1⟩
theorem ok68 : FnOK Tryz.prog 68 F68 := okF [(66, F66), (92, F92), (111, F111)] [] (fun k => .nil) ⟨ok66, ok92, ok111, trivial⟩ Tryz.func68 rfl
abbrev c33_L3 : Cut := ⟨[2, 3, 17, 18, 19], [.box 47 [.nil, .nil, .nil], .box 47 [.own 3 (.int .i64), .own 4 .bool, .own 95 Y0_5], .cell (.sl 95 Y0_5), cI, cI], [], 32, []⟩
def l33_3 (k : Nat) (g3 : (List Int) → (List Bool) → (List Y0_4) → (List Y0_4) → Int → Int → Option Y0_45) (a : List Int) (b : List Bool) (c e : List Y0_4) (f h : Int) : Option Y0_45 :=
 (bif decide (h < f) then
  ix e h <|
  (S68 k (rd e h (0, (0, 0), (0, 0), ([], []), (0, []), 0))).bind fun q2 =>
  ap c ([q2.1.1] : List Y0_4) 128 fun r3 =>
  g3 a b r3 e f (IntKind.i64.wrap (h + 1))
 else
  some ((((a, b), c), ()), ()))
def b33_3 (k : Nat) (g : ((Unit) × (Unit × Unit × Unit × Unit) × Y0_61 × (List Y0_4) × Int × Int × Unit) → Option Y0_45) : ((Unit) × (Unit × Unit × Unit × Unit) × Y0_61 × (List Y0_4) × Int × Int × Unit) → Option Y0_45 := fun (_, _, (a, b, c, _), e, f, h, _) => l33_3 k (fun a b c e f h => g ((), ((), (), (), ()), (a, b, c, ()), e, f, h, ())) a b c e f h
def L33_3 (k a : Nat) (b : List Int) (c : List Bool) (e f : List Y0_4) (h i : Int) : Option Y0_45 := iter (R := ((Y0_26 × List Y0_4) × Unit) × Unit) c33_L3 (b33_3 k) a ((), ((), (), (), ()), (b, c, e, ()), f, h, i, ())
theorem L33_3_s (k a b c e f h i) : L33_3 k (a + 1) b c e f h i = l33_3 k (L33_3 k a) b c e f h i := iter_succ _ _ _ _
def S33 (k : Nat) (a : Y0_26 × List Y0_4) : Option Y0_45 :=
 (S66 k a.1.1).bind fun q0 =>
 (S67 k a.1.2).bind fun q1 =>
 L33_3 k k q0.1.1 q1.1.1 ([] : List Y0_4) a.2 (a.2.length : Int) 0
def F33 : Fn := ⟨[.val ⟨true, Y0_55, false⟩], [.val ⟨true, Y0_55, true⟩], fun k x => S33 k x.1⟩
theorem ok33 : FnOK Tryz.prog 33 F33 := okF [(66, F66), (67, F67), (68, F68)] [(15, 2)] (fun k => (.loop 3 c33_L3 (b33_3 k) (fun g => .nil) .nil)) ⟨ok66, ok67, ok68, trivial⟩ Tryz.func33 rfl
def S34 (k : Nat) (a : Y0_26 × List Y0_4) (b : Int) : Option Y0_15 :=
 (bif decide (b ≥ 0) then
  (bif decide (b < (a.2.length : Int)) then
   ix a.2 b <|
   some (((rd a.2 b (0, (0, 0), (0, 0), ([], []), (0, []), 0)).1 != 0, ()), ())
  else
   some ((false, ()), ()))
 else
  some ((false, ()), ()))
def F34 : Fn := ⟨[.val ⟨true, Y0_55, false⟩, .val ⟨false, (.int .i64), false⟩], [.val ⟨false, .bool, true⟩], fun k x => S34 k x.1 x.2.1⟩
theorem ok34 : FnOK Tryz.prog 34 F34 := okF [] [] (fun k => .nil) trivial Tryz.func34 rfl
abbrev c130_L6 : Cut := ⟨[3, 6, 7, 8, 9, 10], [.cell (.int .u32), .cell (.int .u64), cI, .cell Y0_62, cI, cI], [], 34, []⟩
def l130_6 (k : Nat) (g3 : Y0_46) (g6 : Int → Int → Int → (List Int) → Int → Int → Option Y0_12) (a b c : Int) (e : List Int) (f h : Int) : Option Y0_12 :=
 (bif decide (c < 8) then
  g6 (ixor .u32 (ior .u32 (ishl .u32 a 5) (ishr .u32 a 27)) (IntKind.u32.wrap (IntKind.u8.wrap b))) (ishr .u64 b 8) (IntKind.i64.wrap (c + 1)) e f h
 else
  g3 a e f (IntKind.i64.wrap (h + 1)))
def b130_6 (k : Nat) (g3 : Y0_46) (g : ((Unit) × Int × Int × Int × (List Int) × Int × Int × Unit) → Option Y0_12) : ((Unit) × Int × Int × Int × (List Int) × Int × Int × Unit) → Option Y0_12 := fun (_, a, b, c, e, f, h, _) => l130_6 k g3 (fun a b c e f h => g ((), a, b, c, e, f, h, ())) a b c e f h
def L130_6 (k : Nat) (g3 : Y0_46) (a : Nat) (b c e : Int) (f : List Int) (h i : Int) : Option Y0_12 := iter (R := Y0_53 × Unit) c130_L6 (b130_6 k g3) a ((), b, c, e, f, h, i, ())
theorem L130_6_s (k g3 a b c e f h i) : L130_6 k g3 (a + 1) b c e f h i = l130_6 k g3 (L130_6 k g3 a) b c e f h i := iter_succ _ _ _ _
abbrev c130_L3 : Cut := ⟨[3, 8, 9, 10], [.cell (.int .u32), .cell Y0_62, cI, cI], [], 34, []⟩
def l130_3 (k : Nat) (g3 : Y0_46) (a : Int) (b : List Int) (c e : Int) : Option Y0_12 :=
 (bif decide (e < c) then
  ix b e <|
  L130_6 k g3 k a (IntKind.u64.wrap (rd b e 0)) 0 b c e
 else
  some ((a, ()), ()))
def b130_3 (k : Nat) (g : ((Unit) × Int × (List Int) × Int × Int × Unit) → Option Y0_12) : ((Unit) × Int × (List Int) × Int × Int × Unit) → Option Y0_12 := fun (_, a, b, c, e, _) => l130_3 k (fun a b c e => g ((), a, b, c, e, ())) a b c e
def L130_3 (k a : Nat) (b : Int) (c : List Int) (e f : Int) : Option Y0_12 := iter (R := Y0_53 × Unit) c130_L3 (b130_3 k) a ((), b, c, e, f, ())
theorem L130_3_s (k a b c e f) : L130_3 k (a + 1) b c e f = l130_3 k (L130_3 k a) b c e f := iter_succ _ _ _ _
def S130 (k : Nat) (a : List Int) : Option Y0_12 :=
 L130_3 k k 2166136261 a (a.length : Int) 0
def F130 : Fn := ⟨[.val ⟨false, Y0_62, false⟩], [.val ⟨false, (.int .u32), true⟩], fun k x => S130 k x.1⟩
theorem ok130 : FnOK Tryz.prog 130 F130 := okF [] [] (fun k => (.loop 3 c130_L3 (b130_3 k) (fun g => (fun (g3 : Y0_46) => (.loop 6 c130_L6 (b130_6 k g3) (fun g => .nil) .nil)) (fun h t8 t9 t10 => g ((), h, t8, t9, t10, ()))) .nil)) trivial Tryz.func130 rfl
abbrev c90_L11 : Cut := ⟨[3, 61, 62, 63], [.own 2 (.int .i64), .cell (.sl 126 Y0_66), cI, cI], [], 78, []⟩
def l90_11 (k : Nat) (g11 : (List Int) → Y0_14 → Int → Int → Option Y0_12) (a : List Int) (b : Y0_31) (c e : Int) : Option Y0_12 :=
 (bif decide (e < c) then
  ix b e <|
  ap a ([(rd b e (0, 0)).1, IntKind.i64.wrap (rd b e (0, 0)).2] : List Int) 8 fun r4 =>
  g11 r4 b c (IntKind.i64.wrap (e + 1))
 else
  (S130 k a).bind fun q5 =>
  some ((q5.1.1, ()), ()))
def b90_11 (k : Nat) (g : ((Unit) × (List Int) × Y0_14 × Int × Int × Unit) → Option Y0_12) : ((Unit) × (List Int) × Y0_14 × Int × Int × Unit) → Option Y0_12 := fun (_, a, b, c, e, _) => l90_11 k (fun a b c e => g ((), a, b, c, e, ())) a b c e
def L90_11 (k a : Nat) (b : List Int) (c : Y0_31) (e f : Int) : Option Y0_12 := iter (R := Y0_53 × Unit) c90_L11 (b90_11 k) a ((), b, c, e, f, ())
theorem L90_11_s (k a b c e f) : L90_11 k (a + 1) b c e f = l90_11 k (L90_11 k a) b c e f := iter_succ _ _ _ _
abbrev c90_L5 : Cut := ⟨[1, 3, 41, 42, 43], [.box 95 [cI, cI, cI, cI, cI, .cell Y0_62, .cell Y0_18, .cell (.int .u32), .cell (.sl 126 Y0_66), .cell (.int .u32)], .own 2 (.int .i64), .cell Y0_18, cI, cI], [], 78, []⟩
def l90_5 (k : Nat) (g5 : Int → Int → Int → Int → Int → (List Int) → (List Int) → Int → Y0_14 → Int → (List Int) → (List Int) → Int → Int → Option Y0_12) (a b c e f : Int) (h i : List Int) (l : Int) (m : Y0_31) (n : Int) (o p : List Int) (s t : Int) : Option Y0_12 :=
 (bif decide (t < s) then
  ix p t <|
  ap o ([rd p t 0] : List Int) 8 fun r2 =>
  g5 a b c e f h i l m n r2 p s (IntKind.i64.wrap (t + 1))
 else
  ap o ([IntKind.i64.wrap l] : List Int) 8 fun r3 =>
  L90_11 k k r3 m (m.length : Int) 0)
def b90_5 (k : Nat) (g : ((Unit) × (Int × Int × Int × Int × Int × (List Int) × (List Int) × Int × Y0_14 × Int × Unit) × (List Int) × (List Int) × Int × Int × Unit) → Option Y0_12) : ((Unit) × (Int × Int × Int × Int × Int × (List Int) × (List Int) × Int × Y0_14 × Int × Unit) × (List Int) × (List Int) × Int × Int × Unit) → Option Y0_12 := fun (_, (a, b, c, e, f, h, i, l, m, n, _), o, p, s, t, _) => l90_5 k (fun a b c e f h i l m n o p s t => g ((), (a, b, c, e, f, h, i, l, m, n, ()), o, p, s, t, ())) a b c e f h i l m n o p s t
def L90_5 (k a : Nat) (b c e f h : Int) (i l : List Int) (m : Int) (n : Y0_31) (o : Int) (p s : List Int) (t u : Int) : Option Y0_12 := iter (R := Y0_53 × Unit) c90_L5 (b90_5 k) a ((), (b, c, e, f, h, i, l, m, n, o, ()), p, s, t, u, ())
theorem L90_5_s (k a b c e f h i l m n o p s t u) : L90_5 k (a + 1) b c e f h i l m n o p s t u = l90_5 k (L90_5 k a) b c e f h i l m n o p s t u := iter_succ _ _ _ _
def S90 (k : Nat) (x : Y0_41) : Option Y0_12 :=
 ap ([x.1, x.2.1.1, x.2.1.2, x.2.2.1.1, x.2.2.1.2, (x.2.2.2.1.1.length : Int)] : List Int) x.2.2.2.1.1 8 fun r0 =>
 ap r0 ([(x.2.2.2.1.2.length : Int)] : List Int) 8 fun r1 =>
 L90_5 k k x.1 x.2.1.1 x.2.1.2 x.2.2.1.1 x.2.2.1.2 x.2.2.2.1.1 x.2.2.2.1.2 x.2.2.2.2.1.1 x.2.2.2.2.1.2 x.2.2.2.2.2 r1 x.2.2.2.1.2 (x.2.2.2.1.2.length : Int) 0
def F90 : Fn := ⟨[.val ⟨true, Y0_5, false⟩], [.val ⟨false, (.int .u32), true⟩], fun k x => S90 k x.1⟩
theorem ok90 : FnOK Tryz.prog 90 F90 := okF [(130, F130)] [] (fun k => (.loop 11 c90_L11 (b90_11 k) (fun g => .nil) (.loop 5 c90_L5 (b90_5 k) (fun g => .nil) .nil))) ⟨ok130, trivial⟩ Tryz.func90 rfl
def S81 (k : Nat) (x : Y0_41) : Option ((Y0_4 × Unit) × Unit) :=
 (S90 k x).bind fun q0 =>
 some (((x.1, x.2.1, x.2.2.1, x.2.2.2.1, x.2.2.2.2.1, q0.1.1), ()), ())
def F81 : Fn := ⟨[.val ⟨true, Y0_5, false⟩], [.val ⟨true, Y0_5, false⟩], fun k x => S81 k x.1⟩
theorem ok81 : FnOK Tryz.prog 81 F81 := okF [(90, F90)] [] (fun k => .nil) ⟨ok90, trivial⟩ Tryz.func81 rfl
def S46 (k : Nat) (a : Y0_26 × List Y0_4) (b : Int) (x : Y0_41) : Option Y0_45 :=
 (S33 k a).bind fun q0 =>
 (S34 k a b).bind fun q1 =>
 (bif !q1.1.1 then
  some ((q0.1.1, ()), ())
 else
  ix a.2 b <|
  (S68 k ((rd a.2 b (0, (0, 0), (0, 0), ([], []), (0, []), 0)).1, (rd a.2 b (0, (0, 0), (0, 0), ([], []), (0, []), 0)).2.1, x.2.2)).bind fun q2 =>
  (S81 k q2.1.1).bind fun q3 =>
  (S90 k (rd a.2 b (0, (0, 0), (0, 0), ([], []), (0, []), 0))).bind fun q4 =>
  (bif (rd a.2 b (0, (0, 0), (0, 0), ([], []), (0, []), 0)).2.2.2.2.2 != q4.1.1 then
   ix q0.1.1.2 b <|
   some (((q0.1.1.1, upd q0.1.1.2 b (q3.1.1.1, q3.1.1.2.1, q3.1.1.2.2.1, q3.1.1.2.2.2.1, q3.1.1.2.2.2.2.1, inot .u32 q3.1.1.2.2.2.2.2)), ()), ())
  else
   ix q0.1.1.2 b <|
   some (((q0.1.1.1, upd q0.1.1.2 b q3.1.1), ()), ())))
def F46 : Fn := ⟨[.val ⟨true, Y0_55, false⟩, .val ⟨false, (.int .i64), false⟩, .val ⟨true, Y0_5, false⟩], [.val ⟨true, Y0_55, true⟩], fun k (a, b, c, _) => S46 k a b c⟩
theorem ok46 : FnOK Tryz.prog 46 F46 := okF [(33, F33), (34, F34), (68, F68), (81, F81), (90, F90)] [] (fun k => .nil) ⟨ok33, ok34, ok68, ok81, ok90, trivial⟩ Tryz.func46 rfl
def S100 (k : Nat) (a : Y0_71) : Option ((Y0_26 × Unit) × Unit) :=
 (S66 k a.1).bind fun q0 =>
 (S67 k a.2).bind fun q1 =>
 some (((q0.1.1, q1.1.1), ()), ())
def F100 : Fn := ⟨[.val ⟨true, Y0_29, false⟩], [.val ⟨true, Y0_29, true⟩], fun k x => S100 k x.1⟩
theorem ok100 : FnOK Tryz.prog 100 F100 := okF [(66, F66), (67, F67)] [] (fun k => .nil) ⟨ok66, ok67, trivial⟩ Tryz.func100 rfl
def S56 (k : Nat) (a : Y0_71) (b : Int) : Option ((Y0_26 × Unit) × Unit) :=
 (S100 k a).bind fun q0 =>
 (bif decide (b ≥ 0) then
  (bif decide (b < (q0.1.1.1.length : Int)) then
   ix q0.1.1.1 b <|
   some (((upd q0.1.1.1 b 0, q0.1.1.2), ()), ())
  else
   some ((q0.1.1, ()), ()))
 else
  some ((q0.1.1, ()), ()))
def F56 : Fn := ⟨[.val ⟨true, Y0_29, false⟩, .val ⟨false, (.int .i64), false⟩], [.val ⟨true, Y0_29, true⟩], fun k x => S56 k x.1 x.2.1⟩
theorem ok56 : FnOK Tryz.prog 56 F56 := okF [(100, F100)] [] (fun k => .nil) ⟨ok100, trivial⟩ Tryz.func56 rfl
abbrev c28_L8 : Cut := ⟨[1, 2, 54, 55], [.box 51 [cI, cI, .own 27 Y0_1, .own 134 Y0_35, .cell .bool, .cell .bool, .cell .bool, .own 103 Y0_2, .cell Y0_18, .cell Y0_57, .cell (.sl 95 Y0_5), .cell Y0_18, .cell Y0_57], .box 51 [cI, cI, .nil, .nil, .cell .bool, .cell .bool, .cell .bool, .nil, .nil, .nil, .nil, .nil, .nil], cI, cI], [], 77, [(53, 3)]⟩
def l28_8 (k : Nat) (g8 : Y0_43) (a b : Int) (c : List Y0_0) (e : List (PN Int 5)) (f h i : Bool) (l : List Y0_3) (m : List Int) (n : List Bool) (o : List Y0_4) (p : List Int) (s : List Bool) (t u : Int) (v w y : Bool) (z A : Int) : Option Y0_58 :=
 (bif decide (A < z) then
  ix l A <|
  (S55 k (rd l A (0, 0, 0, 0, (0, prep (α := Int) 8 0, [], false), (0, prep (α := Int) 8 0, [], false), [], false)) (-1)).bind fun q7 =>
  ix l A <|
  g8 a b c e f h i (upd l A q7.1.1) m n o p s t u v w y z (IntKind.i64.wrap (A + 1))
 else
  (S46 k ((m, n), o) (-1) (0, (0, 0), (0, 0), ([], []), (0, []), 0)).bind fun q8 =>
  (S56 k (p, s) (-1)).bind fun q9 =>
  some (((a, b, c, e, f, h, i, l, q8.1.1, q9.1.1), ()), ()))
def b28_8 (k : Nat) (g : ((Unit) × Y0_9 × Y0_21 × Int × Int × Unit) → Option Y0_58) : ((Unit) × Y0_9 × Y0_21 × Int × Int × Unit) → Option Y0_58 := fun (_, (a, b, c, e, f, h, i, l, m, n, o, p, s, _), (t, u, _, _, v, w, y, _), z, A, _) => l28_8 k (fun a b c e f h i l m n o p s t u v w y z A => g ((), (a, b, c, e, f, h, i, l, m, n, o, p, s, ()), (t, u, (), (), v, w, y, (), (), (), (), (), (), ()), z, A, ())) a b c e f h i l m n o p s t u v w y z A
def L28_8 (k a : Nat) (b c : Int) (e : List Y0_0) (f : List (PN Int 5)) (h i l : Bool) (m : List Y0_3) (n : List Int) (o : List Bool) (p : List Y0_4) (s : List Int) (t : List Bool) (u v : Int) (w y z : Bool) (A B : Int) : Option Y0_58 := iter (R := (Y0_8 × Unit) × Unit) c28_L8 (b28_8 k) a ((), (b, c, e, f, h, i, l, m, n, o, p, s, t, ()), (u, v, (), (), w, y, z, (), (), (), (), (), (), ()), A, B, ())
theorem L28_8_s (k a b c e f h i l m n o p s t u v w y z A B) : L28_8 k (a + 1) b c e f h i l m n o p s t u v w y z A B = l28_8 k (L28_8 k a) b c e f h i l m n o p s t u v w y z A B := iter_succ _ _ _ _
abbrev c28_L3 : Cut := ⟨[1, 2, 21, 22], [.box 51 [cI, cI, .own 27 Y0_1, .own 134 Y0_35, .cell .bool, .cell .bool, .cell .bool, .own 103 Y0_2, .cell Y0_18, .cell Y0_57, .cell (.sl 95 Y0_5), .cell Y0_18, .cell Y0_57], .box 51 [cI, cI, .nil, .nil, .cell .bool, .cell .bool, .cell .bool, .nil, .nil, .nil, .nil, .nil, .nil], cI, cI], [], 77, [(20, 1)]⟩
def l28_3 (k : Nat) (g3 : Y0_43) (a b : Int) (c : List Y0_0) (e : List (PN Int 5)) (f h i : Bool) (l : List Y0_3) (m : List Int) (n : List Bool) (o : List Y0_4) (p : List Int) (s : List Bool) (t u : Int) (v w y : Bool) (z A : Int) : Option Y0_58 :=
 (bif decide (A < z) then
  ix c A <|
  (S54 k (rd c A (0, 0, 0, [], [], [])).2.2.2.1).bind fun q3 =>
  (S54 k (rd c A (0, 0, 0, [], [], [])).2.2.2.2.1).bind fun q4 =>
  (S54 k (rd c A (0, 0, 0, [], [], [])).2.2.2.2.2).bind fun q5 =>
  ix c A <|
  ix (upd c A ((rd c A (0, 0, 0, [], [], [])).1, (rd c A (0, 0, 0, [], [], [])).2.1, (rd c A (0, 0, 0, [], [], [])).2.2.1, q3.1.1, (rd c A (0, 0, 0, [], [], [])).2.2.2.2)) A <|
  let r6 : List Y0_0 := upd (upd c A ((rd c A (0, 0, 0, [], [], [])).1, (rd c A (0, 0, 0, [], [], [])).2.1, (rd c A (0, 0, 0, [], [], [])).2.2.1, q3.1.1, (rd c A (0, 0, 0, [], [], [])).2.2.2.2)) A ((rd (upd c A ((rd c A (0, 0, 0, [], [], [])).1, (rd c A (0, 0, 0, [], [], [])).2.1, (rd c A (0, 0, 0, [], [], [])).2.2.1, q3.1.1, (rd c A (0, 0, 0, [], [], [])).2.2.2.2)) A (0, 0, 0, [], [], [])).1, (rd (upd c A ((rd c A (0, 0, 0, [], [], [])).1, (rd c A (0, 0, 0, [], [], [])).2.1, (rd c A (0, 0, 0, [], [], [])).2.2.1, q3.1.1, (rd c A (0, 0, 0, [], [], [])).2.2.2.2)) A (0, 0, 0, [], [], [])).2.1, (rd (upd c A ((rd c A (0, 0, 0, [], [], [])).1, (rd c A (0, 0, 0, [], [], [])).2.1, (rd c A (0, 0, 0, [], [], [])).2.2.1, q3.1.1, (rd c A (0, 0, 0, [], [], [])).2.2.2.2)) A (0, 0, 0, [], [], [])).2.2.1, (rd (upd c A ((rd c A (0, 0, 0, [], [], [])).1, (rd c A (0, 0, 0, [], [], [])).2.1, (rd c A (0, 0, 0, [], [], [])).2.2.1, q3.1.1, (rd c A (0, 0, 0, [], [], [])).2.2.2.2)) A (0, 0, 0, [], [], [])).2.2.2.1, q4.1.1, (rd (upd c A ((rd c A (0, 0, 0, [], [], [])).1, (rd c A (0, 0, 0, [], [], [])).2.1, (rd c A (0, 0, 0, [], [], [])).2.2.1, q3.1.1, (rd c A (0, 0, 0, [], [], [])).2.2.2.2)) A (0, 0, 0, [], [], [])).2.2.2.2.2)
  ix r6 A <|
  g3 a b (upd r6 A ((rd r6 A (0, 0, 0, [], [], [])).1, (rd r6 A (0, 0, 0, [], [], [])).2.1, (rd r6 A (0, 0, 0, [], [], [])).2.2.1, (rd r6 A (0, 0, 0, [], [], [])).2.2.2.1, (rd r6 A (0, 0, 0, [], [], [])).2.2.2.2.1, q5.1.1)) e f h i l m n o p s t u v w y z (IntKind.i64.wrap (A + 1))
 else
  L28_8 k k a b c e f h i l m n o p s t u v w y (l.length : Int) 0)
def b28_3 (k : Nat) (g : ((Unit) × Y0_9 × Y0_21 × Int × Int × Unit) → Option Y0_58) : ((Unit) × Y0_9 × Y0_21 × Int × Int × Unit) → Option Y0_58 := fun (_, (a, b, c, e, f, h, i, l, m, n, o, p, s, _), (t, u, _, _, v, w, y, _), z, A, _) => l28_3 k (fun a b c e f h i l m n o p s t u v w y z A => g ((), (a, b, c, e, f, h, i, l, m, n, o, p, s, ()), (t, u, (), (), v, w, y, (), (), (), (), (), (), ()), z, A, ())) a b c e f h i l m n o p s t u v w y z A
def L28_3 (k a : Nat) (b c : Int) (e : List Y0_0) (f : List (PN Int 5)) (h i l : Bool) (m : List Y0_3) (n : List Int) (o : List Bool) (p : List Y0_4) (s : List Int) (t : List Bool) (u v : Int) (w y z : Bool) (A B : Int) : Option Y0_58 := iter (R := (Y0_8 × Unit) × Unit) c28_L3 (b28_3 k) a ((), (b, c, e, f, h, i, l, m, n, o, p, s, t, ()), (u, v, (), (), w, y, z, (), (), (), (), (), (), ()), A, B, ())
theorem L28_3_s (k a b c e f h i l m n o p s t u v w y z A B) : L28_3 k (a + 1) b c e f h i l m n o p s t u v w y z A B = l28_3 k (L28_3 k a) b c e f h i l m n o p s t u v w y z A B := iter_succ _ _ _ _
def S28 (k : Nat) (a : Y0_20) : Option Y0_58 :=
 (S51 k a.2.2.1).bind fun q0 =>
 (S52 k a.2.2.2.1).bind fun q1 =>
 (S53 k a.2.2.2.2.2.2.2.1).bind fun q2 =>
 L28_3 k k a.1 a.2.1 q0.1.1 q1.1.1 a.2.2.2.2.1 a.2.2.2.2.2.1 a.2.2.2.2.2.2.1 q2.1.1 a.2.2.2.2.2.2.2.2.1.1.1 a.2.2.2.2.2.2.2.2.1.1.2 a.2.2.2.2.2.2.2.2.1.2 a.2.2.2.2.2.2.2.2.2.1 a.2.2.2.2.2.2.2.2.2.2 0 0 false false false (q0.1.1.length : Int) 0
def F28 : Fn := ⟨[.val ⟨true, Y0_10, false⟩], [.val ⟨true, Y0_10, true⟩], fun k x => S28 k x.1⟩
theorem ok28 : FnOK Tryz.prog 28 F28 := okF [(46, F46), (51, F51), (52, F52), (53, F53), (54, F54), (55, F55), (56, F56)] [] (fun k => (.loop 8 c28_L8 (b28_8 k) (fun g => .nil) (.loop 3 c28_L3 (b28_3 k) (fun g => .nil) .nil))) ⟨ok46, ok51, ok52, ok53, ok54, ok55, ok56, trivial⟩ Tryz.func28 rfl
def S70 (k : Nat) (a : Int × Int × Int × Int × Y0_50 × Y0_50 × (List Int) × Bool) (b : Int) : Option Y0_12 :=
 some ((IntKind.i64.wrap (a.1 - b), ()), ())
def F70 : Fn := ⟨[.val ⟨true, Y0_2, false⟩, .val ⟨false, (.int .i64), false⟩], [.val ⟨false, (.int .i64), true⟩], fun k x => S70 k x.1 x.2.1⟩
theorem ok70 : FnOK Tryz.prog 70 F70 := okF [] [] (fun k => .nil) trivial Tryz.func70 rfl
abbrev c69_L3 : Cut := ⟨[0, 1, 2, 8, 9, 10], [.cell (.sl 103 Y0_2), cI, .clo 70 [], cI, cI, cI], [], 49, []⟩
def l69_3 (k : Nat) (g3 : (List Y0_3) → Int → Int → Int → Int → Option Y0_34) (a : List Y0_3) (b c e f : Int) : Option Y0_34 :=
 (bif decide (e < f) then
  ix a (IntKind.i64.wrap (ishr .u64 (IntKind.u64.wrap (IntKind.i64.wrap (e + f))) 1)) <|
  (S70 k (rd a (IntKind.i64.wrap (ishr .u64 (IntKind.u64.wrap (IntKind.i64.wrap (e + f))) 1)) (0, 0, 0, 0, (0, prep (α := Int) 8 0, [], false), (0, prep (α := Int) 8 0, [], false), [], false)) b).bind fun q0 =>
  (bif decide (q0.1.1 < 0) then
   g3 a b c (IntKind.i64.wrap ((IntKind.i64.wrap (ishr .u64 (IntKind.u64.wrap (IntKind.i64.wrap (e + f))) 1)) + 1)) f
  else
   g3 a b c e (IntKind.i64.wrap (ishr .u64 (IntKind.u64.wrap (IntKind.i64.wrap (e + f))) 1)))
 else
  (bif decide (e < c) then
   ix a e <|
   (S70 k (rd a e (0, 0, 0, 0, (0, prep (α := Int) 8 0, [], false), (0, prep (α := Int) 8 0, [], false), [], false)) b).bind fun q1 =>
   some ((e, q1.1.1 == 0, ()), ())
  else
   some ((e, false, ()), ())))
def b69_3 (k : Nat) (g : ((Unit) × (List Y0_3) × Int × Unit × Int × Int × Int × Unit) → Option Y0_34) : ((Unit) × (List Y0_3) × Int × Unit × Int × Int × Int × Unit) → Option Y0_34 := fun (_, a, b, _, c, e, f, _) => l69_3 k (fun a b c e f => g ((), a, b, (), c, e, f, ())) a b c e f
def L69_3 (k a : Nat) (b : List Y0_3) (c e f h : Int) : Option Y0_34 := iter (R := Y0_69 × Unit) c69_L3 (b69_3 k) a ((), b, c, (), e, f, h, ())
theorem L69_3_s (k a b c e f h) : L69_3 k (a + 1) b c e f h = l69_3 k (L69_3 k a) b c e f h := iter_succ _ _ _ _
def S69 (k : Nat) (x : List Y0_3) (a : Int) : Option Y0_34 :=
 L69_3 k k x a (x.length : Int) 0 (x.length : Int)
def F69 : Fn := ⟨[.val ⟨false, (.sl 103 Y0_2), false⟩, .val ⟨false, (.int .i64), false⟩, .pv (.clo 70 [])], [.val ⟨false, (.int .i64), true⟩, .val ⟨false, .bool, true⟩], fun k x => S69 k x.1 x.2.1⟩
theorem ok69 : FnOK Tryz.prog 69 F69 := okF [(70, F70)] [] (fun k => (.loop 3 c69_L3 (b69_3 k) (fun g => .nil) .nil)) ⟨ok70, trivial⟩ Tryz.func69 rfl
def S35 (k : Nat) (a : Y0_20) (b : Int) : Option Y0_34 :=
 (S69 k a.2.2.2.2.2.2.2.1 b).bind fun q0 =>
 some (q0.1, ())
def F35 : Fn := ⟨[.pv (.ref Y0_10), .val ⟨false, (.int .i64), false⟩], [.val ⟨false, (.int .i64), true⟩, .val ⟨false, .bool, true⟩], fun k x => S35 k x.1 x.2.1⟩
theorem ok35 : FnOK Tryz.prog 35 F35 := okF [(69, F69)] [] (fun k => .nil) ⟨ok69, trivial⟩ Tryz.func35 rfl
section
variable (w : World) {g n c i j : Nat}
theorem delF36_t : Tryz.prog.underlying 40 = some (.slice 103) ∧ Tryz.prog.underlying 3 = some (.int .i64) ∧ Tryz.prog.underlying 4 = some .bool ∧ Tryz.prog.follows .mixedOrders = true ∧ (∀ w, (Go.sizeOf 103).run Tryz.prog w = .ok 28 w) ∧ Tryz.f36.ntmps = 33 := ⟨by kernel_rfl, by kernel_rfl, by kernel_rfl, by kernel_rfl, fun w => by kernel_rfl, rfl⟩
theorem delF36_none {v : Value} (hv : (∃ A n c, v = .slice A n c ∧ i ≤ n ∧ n ≤ c ∧ c ≤ 9223372036854775807)) : Calls Tryz.prog 36 #[v, .int .i64 i, .int .i64 i] w fun e w' => e = .returned v ∧ w' = w := by
 obtain ⟨t24, t3, t4, mixed, z36, hnt⟩ := delF36_t
 have u24 := run_underlying t24; have u3 := run_underlying t3; have u4 := run_underlying t4
 obtain ⟨A, n, c, rfl, hi, hnc, hc63⟩ := hv
 have hi0 : (i : Int) ≤ (n : Int) := by omega
 have hi1 : (0 : Int) ≤ (i : Int) := by omega
 cases A <;> (go_enter Tryz.func36, hnt; go_wp2 <;> (go_ret; exact ⟨rfl, rfl⟩))
theorem delF36_some {w' w'' : World} (hlt : i < j) (hj : j ≤ n) (hnc : n ≤ c) (hc63 : c ≤ 9223372036854775807)
  (hap : ∀ ty A, (c ≠ j → A = (⟨g, j * 28, none⟩ : Addr)) → (Builtin.append_ #[40, 40] ty #[.slice (some ⟨g, 0, none⟩) i c, .slice (some A) (n - j) (c - j)]).run Tryz.prog w.drew = .ok (.slice (some ⟨g, 0, none⟩) (i + (n - j)) c) w')
  (hcl : ∀ ty dc, (Builtin.clear_ #[40] ty #[.slice (some ⟨g, (i + (n - j)) * 28, none⟩) (n - (i + (n - j))) dc]).run Tryz.prog w' = .ok (.tuple #[]) w'') :
  Calls Tryz.prog 36 #[.slice (some ⟨g, 0, none⟩) n c, .int .i64 i, .int .i64 j] w fun e w1 => e = .returned (.slice (some ⟨g, 0, none⟩) (i + (n - j)) c) ∧ w1 = w'' := by
 obtain ⟨t24, t3, t4, mixed, z36, hnt⟩ := delF36_t
 have u24 := run_underlying t24; have u3 := run_underlying t3; have u4 := run_underlying t4
 have hi0 : (i : Int) ≤ (n : Int) := by omega
 have hj0 : (j : Int) ≤ (n : Int) := by omega
 have hij : (i : Int) ≤ (j : Int) := by omega
 have hne : ¬ ((i : Int) = (j : Int)) := by omega
 have hic : i ≤ c := by omega
 have hjc : j ≤ c := by omega
 have hln : i + (n - j) ≤ n := by omega
 have hlc : i + (n - j) ≤ c := by omega
 have hci : ¬ (c = i + (n - j)) := by omega
 obtain ⟨A, hA, hA'⟩ : ∃ A : Addr, (if c = j then some (⟨g, 0, none⟩ : Addr) else some ⟨g, j * 28, none⟩) = some A ∧ (c ≠ j → A = (⟨g, j * 28, none⟩ : Addr)) := by
  by_cases h : c = j
  · exact ⟨_, if_pos h, fun q => absurd h q⟩
  · exact ⟨_, if_neg h, fun _ => rfl⟩
 try simp only [Nat.mul_one] at hA hcl
 go_enter Tryz.func36, hnt
 go_wp2_with fail
 go_region_law_o (refine append_step rfl rfl _ _ (by simp [Act.eval, Act.put]) (by simp [Act.eval, Act.put, hA]) (hap _ _ hA') ?_)
 go_wp2_with (at_builtin; refine clear_list rfl rfl _ rfl (hcl _ _) ?_)
 go_ret
 exact ⟨rfl, rfl⟩
end
abbrev P36 : List PT := delPs 103 Y0_2
abbrev R36 : List RT := delRs 103 Y0_2
def S36 (k : Nat) (a : List Y0_3) (i j : Int) : Option (((List Y0_3) × Unit) × Unit) := delSem 103 Y0_2 k (a, i, j, ())
def F36 : Fn := ⟨P36, R36, delSem 103 Y0_2⟩
def E36 : Env := tab.env (fun _ => none) (fun _ => 0)
theorem E36_ok : EnvOK Tryz.prog E36 := envOK_of tabOK _ _ (fun f F h => by cases h)
theorem ok36 : FnOK Tryz.prog 36 F36 := by
 obtain ⟨i0, z, a1, a2, a3, a4, a5⟩ := (E36_ok.ty 103 (Y0_2) (by kernel_rfl)).info
 have b2 : Ty.sz (Y0_2) = 28 := rfl
 have hz : z.cells.size = 28 := by rw [← Array.length_toList, a5, zeroV_len, b2]
 obtain ⟨t24, t3, t4, mixed, z36, hnt⟩ := delF36_t
 refine del_ok Tryz.func36 rfl (by kernel_rfl) ?_
 rw [b2]
 exact del_all (S := 40) (z := z) t24 a1 a4 (by rw [a2, b2]) hz (fun v hv => zeroV_one (Y0_2) v (by rw [← a5]; exact hv)) (by decide) (fun w i v h => delF36_none w h) (fun w g n c i j w' w'' h1 h2 h3 h4 h5 h6 => delF36_some w h1 h2 h3 h4 h5 h6)
def S73 (k : Nat) (a : Int) : Option ((Y0_50 × Unit) × Unit) :=
 some (((0, (a, 0, 0, 0, 0, 0, 0, 0), [], false), ()), ())
def F73 : Fn := ⟨[.val ⟨false, (.int .i64), false⟩], [.val ⟨true, (.pair (.int .i64) (.pair (arrT 8 (.int .i64)) (.pair (.sl 189 (.pair (.int .i64) Y0_16)) .bool))), true⟩], fun k x => S73 k x.1⟩
theorem ok73 : FnOK Tryz.prog 73 F73 := okF [] [] (fun k => .nil) trivial Tryz.func73 rfl
def S38 (k : Nat) (a b c : Int) : Option ((Y0_3 × Unit) × Unit) :=
 (S73 k c).bind fun q0 =>
 (S73 k c).bind fun q1 =>
 some (((a, b, c, 0, q0.1.1, q1.1.1, [], false), ()), ())
def F38 : Fn := ⟨[.val ⟨false, (.int .i64), false⟩, .val ⟨false, (.int .i64), false⟩, .val ⟨false, (.int .i64), false⟩], [.val ⟨true, Y0_2, true⟩], fun k (a, b, c, _) => S38 k a b c⟩
theorem ok38 : FnOK Tryz.prog 38 F38 := okF [(73, F73)] [] (fun k => .nil) ⟨ok73, trivial⟩ Tryz.func38 rfl
section
variable (w : World) {g n c i g2 m c2 : Nat}
theorem insF37_t : Tryz.prog.underlying 40 = some (.slice 103) ∧ Tryz.prog.underlying 3 = some (.int .i64) ∧ Tryz.prog.underlying 4 = some .bool ∧ Tryz.prog.follows .mixedOrders = true ∧ (∀ w, (Go.sizeOf 103).run Tryz.prog w = .ok 28 w) ∧ Tryz.f37.ntmps = 95 := ⟨by kernel_rfl, by kernel_rfl, by kernel_rfl, by kernel_rfl, fun w => by kernel_rfl, rfl⟩
theorem insF37_none {v u : Value} (hv : (∃ A n c, v = .slice A n c ∧ i ≤ n)) (hu : ∃ A c, u = .slice A m c) (hm : m = 0) : Calls Tryz.prog 37 #[v, .int .i64 i, u] w fun e w' => e = .returned v ∧ w' = w := by
 obtain ⟨t24, t3, t4, mixed, z36, hnt⟩ := insF37_t
 have u24 := run_underlying t24; have u3 := run_underlying t3; have u4 := run_underlying t4
 obtain ⟨A, n, c, rfl, hi⟩ := hv
 obtain ⟨A2, c2, rfl⟩ := hu
 have hi0 : (i : Int) ≤ (n : Int) := by omega
 have hz1 : (m : Int) = 0 := by omega
 cases A <;> (go_enter Tryz.func37, hnt; go_wp2 <;> (go_ret; exact ⟨rfl, rfl⟩))
theorem insF37_end {v : Value} {w' : World} {v' : Value} (hv : (∃ A c, v = .slice A n c)) (hm : 0 < m)
  (hr : ∀ ty, (Builtin.append_ #[40, 40] ty #[v, .slice (some ⟨g2, 0, none⟩) m c2]).run Tryz.prog w = .ok v' w') : Calls Tryz.prog 37 #[v, .int .i64 n, .slice (some ⟨g2, 0, none⟩) m c2] w fun e w1 => e = .returned v' ∧ w1 = w' := by
 obtain ⟨t24, t3, t4, mixed, z36, hnt⟩ := insF37_t
 have u24 := run_underlying t24; have u3 := run_underlying t3; have u4 := run_underlying t4
 have hz1 : ¬ ((m : Int) = 0) := by omega
 obtain ⟨A, c, rfl⟩ := hv
 go_enter Tryz.func37, hnt
 go_wp2_with (at_builtin; refine append_list rfl rfl _ _ rfl rfl (hr _) ?_)
 all_goals (go_ret; exact ⟨rfl, rfl⟩)
theorem insF37_shift {v' v'' : Value} {w' w'' : World} (hi : i < n) (hm : 0 < m) (hroom : n + m ≤ c) (hc63 : c ≤ 9223372036854775807)
  (hov : ∀ lb cb, (callFunc 71 #[.slice (some ⟨g2, 0, none⟩) m c2, .slice (some ⟨g, (i + m) * 28, none⟩) lb cb]).run Tryz.prog w = .ok (.value (.bool false)) w)
  (hcp1 : ∀ ty dc sc, (Builtin.copy_ #[40, 40] ty #[.slice (some ⟨g, (i + m) * 28, none⟩) (n + m - (i + m)) dc, .slice (some ⟨g, i * 28, none⟩) (n + m - i) sc]).run Tryz.prog w.drew = .ok v' w')
  (hcp2 : ∀ ty dc, (Builtin.copy_ #[40, 40] ty #[.slice (some ⟨g, i * 28, none⟩) (n + m - i) dc, .slice (some ⟨g2, 0, none⟩) m c2]).run Tryz.prog w' = .ok v'' w'') :
  Calls Tryz.prog 37 #[.slice (some ⟨g, 0, none⟩) n c, .int .i64 i, .slice (some ⟨g2, 0, none⟩) m c2] w fun e w1 => e = .returned (.slice (some ⟨g, 0, none⟩) (n + m) c) ∧ w1 = w'' := by
 obtain ⟨t24, t3, t4, mixed, z36, hnt⟩ := insF37_t
 have u24 := run_underlying t24; have u3 := run_underlying t3; have u4 := run_underlying t4
 have hz1 : ¬ ((m : Int) = 0) := by omega
 have hz2 : ¬ ((i : Int) = (n : Int)) := by omega
 have hw1 : IntKind.i64.wrap ((i : Int) + (m : Int)) = (i : Int) + (m : Int) := by rw [IntKind.wrap_i64]; omega
 have hb1 : (0 : Int) ≤ (i : Int) + (m : Int) := by omega
 have hin : i ≤ n := by omega
 have htn : ((i : Int) + (m : Int)).toNat = i + m := by omega
 have hb2 : ¬ (c = i + m) := by omega
 have hb3 : (i : Int) ≤ (n : Int) + (m : Int) := by omega
 have hb4 : ¬ (c = i) := by omega
 go_enter Tryz.func37, hnt
 go_wp2_with (simp only [hov])
 go_region_law_o (refine copy_step rfl rfl _ _ (by simp [Act.eval, Act.put]) (by simp [Act.eval, Act.put]) (hcp1 _ _ _) ?_)
 go_wp2_with (at_builtin; refine copy_list rfl rfl _ _ rfl rfl (hcp2 _ _) ?_)
 go_ret
 exact ⟨rfl, rfl⟩
theorem insF37_grow {h G : Nat} {v' v'' : Value} {w0 w' w'' : World} (hi : i < n) (hm : 0 < m) (hnc : n ≤ c) (hroom : c < n + m) (hc63 : n + m ≤ 140737488355328) (hG : n + m ≤ G) (hG63 : G ≤ 9223372036854775807)
  (hrz : ∀ ty, (Builtin.append_ #[40, 3] ty #[.slice (some ⟨g, 0, none⟩) i c, .int .i64 ((n : Int) + (m : Int) - (i : Int))]).run Tryz.prog w = .ok (.slice (some ⟨h, 0, none⟩) (n + m) G) w0)
  (hcp1 : ∀ ty dc, (Builtin.copy_ #[40, 40] ty #[.slice (some ⟨h, i * 28, none⟩) (n + m - i) dc, .slice (some ⟨g2, 0, none⟩) m c2]).run Tryz.prog w0 = .ok v' w')
  (hcp2 : ∀ ty dc sc, (Builtin.copy_ #[40, 40] ty #[.slice (some ⟨h, (i + m) * 28, none⟩) (n + m - (i + m)) dc, .slice (some ⟨g, i * 28, none⟩) (n - i) sc]).run Tryz.prog w'.drew = .ok v'' w'') :
  Calls Tryz.prog 37 #[.slice (some ⟨g, 0, none⟩) n c, .int .i64 i, .slice (some ⟨g2, 0, none⟩) m c2] w fun e w1 => e = .returned (.slice (some ⟨h, 0, none⟩) (n + m) G) ∧ w1 = w'' := by
 obtain ⟨t24, t3, t4, mixed, z36, hnt⟩ := insF37_t
 have u24 := run_underlying t24; have u3 := run_underlying t3; have u4 := run_underlying t4
 have hz1 : ¬ ((m : Int) = 0) := by omega
 have hz2 : ¬ ((i : Int) = (n : Int)) := by omega
 have hz3 : (c : Int) < (n : Int) + (m : Int) := by omega
 have hw1 : IntKind.i64.wrap ((i : Int) + (m : Int)) = (i : Int) + (m : Int) := by rw [IntKind.wrap_i64]; omega
 have hb1 : (0 : Int) ≤ (i : Int) + (m : Int) := by omega
 have hin : i ≤ n := by omega
 have htn : ((i : Int) + (m : Int)).toNat = i + m := by omega
 have hGi : ¬ (G = i) := by omega
 have hGim : ¬ (G = i + m) := by omega
 have hci : ¬ (c = i) := by omega
 have hb3 : (i : Int) ≤ (n : Int) := by omega
 go_enter Tryz.func37, hnt
 go_wp2_with (first
  | (at_builtin; refine append_list rfl rfl _ _ rfl rfl (hrz _) ?_)
  | (at_builtin; refine copy_list rfl rfl _ _ rfl rfl (hcp1 _ _) ?_))
 go_region_law_o (refine copy_step rfl rfl _ _ (by simp [Act.eval, Act.put]) (by simp [Act.eval, Act.put]) (hcp2 _ _ _) ?_)
 go_wp2
 go_ret
 exact ⟨rfl, rfl⟩
end
abbrev P37 : List PT := insPs 103 Y0_2
abbrev R37 : List RT := insRs 103 Y0_2
def S37 (k : Nat) (a : List Y0_3) (b : Int) (c : List Y0_3) : Option (((List Y0_3) × Unit) × Unit) := insSem 272 103 Y0_2 k (a, b, c, ())
def F37 : Fn := ⟨P37, R37, insSem 272 103 Y0_2⟩
def E37 : Env := tab.env (fun _ => none) (fun _ => 0)
theorem E37_ok : EnvOK Tryz.prog E37 := envOK_of tabOK _ _ (fun f F h => by cases h)
theorem ok37 : FnOK Tryz.prog 37 F37 := by
 obtain ⟨i0, z, a1, a2, a3, a4, a5⟩ := (E37_ok.ty 103 (Y0_2) (by kernel_rfl)).info
 have b1 : E37.byt 103 = 272 := by kernel_rfl
 have b2 : Ty.sz (Y0_2) = 28 := rfl
 rw [b1] at a3
 have hz : z.cells.size = 28 := by rw [← Array.length_toList, a5, zeroV_len, b2]
 obtain ⟨t24, t3, t4, mixed, z36, hnt⟩ := insF37_t
 refine ins_ok Tryz.func37 rfl (by kernel_rfl) ?_
 rw [b2, ← a3]
 refine ins_all (S := 40) (z := z) t24 t3 a1 a4 (by rw [a2, b2]) hz (by decide) (by rw [a3]; decide) (fun w i m v u h1 h2 h3 => insF37_none w h1 h2 h3) (fun w n g2 m c2 v v' w' h1 h2 h3 => insF37_end w h1 h2 h3) (fun w g n c i g2 m c2 v' v'' w' w'' h1 h2 h3 h4 h5 h6 hne hg hg2 => insF37_shift w h1 h2 h3 h4 (fun lb cb => ?_) h5 h6) (fun w g n c i g2 m c2 h G v' v'' w0 w' w'' h1 h2 h3 h4 h5 h6 h7 h8 h9 h10 => insF37_grow w h1 h2 h3 h4 h5 h6 h7 h8 h9 h10)
 obtain ⟨cur, q1, q2⟩ := hg
 obtain ⟨cur2, q3⟩ := hg2
 rw [run_callFunc_extern Tryz.func71 (by kernel_rfl) (by kernel_rfl) (by kernel_rfl) (e := Extern.SlicesOverlaps.overlaps #[40, 40] #[4]) (by kernel_rfl), Lib.run_overlaps_apart w 40 4 103 t24 28 z36 ⟨g2, 0, none⟩ ⟨g, (i + m) * 28, none⟩ m c2 lb cb hne 103 103 cur2.size cur.size (by simp [World.shape?, q3]) (by simp [World.shape?, q1]) q2 (Kd.frozen_row q3 _) (Kd.frozen_row q3 _)]
 rfl
abbrev c14_J17 : Cut := ⟨[1, 2, 3, 6, 9, 10], [cI, cI, .box 51 [cI, cI, .own 27 Y0_1, .own 134 Y0_35, .cell .bool, .cell .bool, .cell .bool, .own 103 Y0_2, .own 3 (.int .i64), .own 4 .bool, .own 95 Y0_5, .own 3 (.int .i64), .own 4 .bool], .box 51 [cI, cI, .nil, .nil, .cell .bool, .cell .bool, .cell .bool, .nil, .nil, .nil, .nil, .nil, .nil], .own 58 Y0_65, cI], [], 98, []⟩
def j14_17 (k : Nat) (a b c e : Int) (f : List Y0_0) (h : List (PN Int 5)) (i l m : Bool) (n : List Y0_3) (o : List Int) (p : List Bool) (s : List Y0_4) (t : List Int) (u : List Bool) (v w : Int) (y z A : Bool) (B : List (PN Int 6)) (C : Int) : Option ((Y0_8 × (List (PN Int 6)) × Int × Unit) × Unit) :=
 (S38 k a c b).bind fun q4 =>
 (S37 k n C ([q4.1.1] : List Y0_3)).bind fun q5 =>
 ap B ([(c, 1, a, 0, b, 0)] : List (PN Int 6)) 48 fun r6 =>
 some (((c, e, f, h, i, l, m, q5.1.1, ((o, p), s), t, u), r6, 0, ()), ())
abbrev c14_J10 : Cut := ⟨[1, 2, 3, 6], [cI, cI, .box 51 [cI, cI, .own 27 Y0_1, .own 134 Y0_35, .cell .bool, .cell .bool, .cell .bool, .own 103 Y0_2, .own 3 (.int .i64), .own 4 .bool, .own 95 Y0_5, .own 3 (.int .i64), .own 4 .bool], .box 51 [cI, cI, .nil, .nil, .cell .bool, .cell .bool, .cell .bool, .nil, .nil, .nil, .nil, .nil, .nil]], [], 98, []⟩
def j14_10 (k : Nat) (a b c e : Int) (f : List Y0_0) (h : List (PN Int 5)) (i l m : Bool) (n : List Y0_3) (o : List Int) (p : List Bool) (s : List Y0_4) (t : List Int) (u : List Bool) (v w : Int) (y z A : Bool) : Option ((Y0_8 × (List (PN Int 6)) × Int × Unit) × Unit) :=
 (S35 k (c, e, f, h, i, l, m, n, ((o, p), s), t, u) a).bind fun q1 =>
 (bif q1.1.2.1 then
  ix n q1.1.1 <|
  (bif (rd n q1.1.1 (0, 0, 0, 0, (0, prep (α := Int) 8 0, [], false), (0, prep (α := Int) 8 0, [], false), [], false)).2.2.2.1 != 2 then
   some (((c, e, f, h, i, l, m, n, ((o, p), s), t, u), [], 5, ()), ())
  else
   ap ([] : List (PN Int 6)) ([(c, 13, a, 0, 0, 0)] : List (PN Int 6)) 48 fun r2 =>
   (S36 k n q1.1.1 (IntKind.i64.wrap (q1.1.1 + 1))).bind fun q3 =>
   j14_17 k a b c e f h i l m q3.1.1 o p s t u v w y z A r2 q1.1.1)
 else
  j14_17 k a b c e f h i l m n o p s t u v w y z A ([] : List (PN Int 6)) q1.1.1)
def S14 (k : Nat) (a : Y0_20) (b c : Int) : Option ((Y0_8 × (List (PN Int 6)) × Int × Unit) × Unit) :=
 (S28 k a).bind fun q0 =>
 (bif !q0.1.1.2.2.2.2.1 then
  some ((q0.1.1, [], 8, ()), ())
 else
  (bif q0.1.1.2.2.2.2.2.1 then
   some ((q0.1.1, [], 17, ()), ())
  else
   (bif decide (b < 0) then
    some ((q0.1.1, [], 3, ()), ())
   else
    (bif decide (b ≥ (q0.1.1.2.2.1.length : Int)) then
     some ((q0.1.1, [], 3, ()), ())
    else
     (bif decide (b < (q0.1.1.2.2.2.2.2.2.2.2.2.2.length : Int)) then
      ix q0.1.1.2.2.2.2.2.2.2.2.2.2 b <|
      (bif rd q0.1.1.2.2.2.2.2.2.2.2.2.2 b false then
       some ((q0.1.1, [], 6, ()), ())
      else
       j14_10 k b c q0.1.1.1 q0.1.1.2.1 q0.1.1.2.2.1 q0.1.1.2.2.2.1 q0.1.1.2.2.2.2.1 q0.1.1.2.2.2.2.2.1 q0.1.1.2.2.2.2.2.2.1 q0.1.1.2.2.2.2.2.2.2.1 q0.1.1.2.2.2.2.2.2.2.2.1.1.1 q0.1.1.2.2.2.2.2.2.2.2.1.1.2 q0.1.1.2.2.2.2.2.2.2.2.1.2 q0.1.1.2.2.2.2.2.2.2.2.2.1 q0.1.1.2.2.2.2.2.2.2.2.2.2 0 0 false false false)
     else
      j14_10 k b c q0.1.1.1 q0.1.1.2.1 q0.1.1.2.2.1 q0.1.1.2.2.2.1 q0.1.1.2.2.2.2.1 q0.1.1.2.2.2.2.2.1 q0.1.1.2.2.2.2.2.2.1 q0.1.1.2.2.2.2.2.2.2.1 q0.1.1.2.2.2.2.2.2.2.2.1.1.1 q0.1.1.2.2.2.2.2.2.2.2.1.1.2 q0.1.1.2.2.2.2.2.2.2.2.1.2 q0.1.1.2.2.2.2.2.2.2.2.2.1 q0.1.1.2.2.2.2.2.2.2.2.2.2 0 0 false false false)))))
def F14 : Fn := ⟨[.val ⟨true, Y0_10, false⟩, .val ⟨false, (.int .i64), false⟩, .val ⟨false, (.int .i64), false⟩], [.val ⟨true, Y0_10, true⟩, .val ⟨false, (.sl 58 Y0_65), true⟩, .val ⟨false, (.int .i64), true⟩], fun k (a, b, c, _) => S14 k a b c⟩
theorem ok14 : FnOK Tryz.prog 14 F14 := okF [(28, F28), (35, F35), (36, F36), (37, F37), (38, F38)] [(9, 2)] (fun k => (.join 17 c14_J17 (fun d => j14_17 k d.2.1 d.2.2.1 d.2.2.2.1.1 d.2.2.2.1.2.1 d.2.2.2.1.2.2.1 d.2.2.2.1.2.2.2.1 d.2.2.2.1.2.2.2.2.1 d.2.2.2.1.2.2.2.2.2.1 d.2.2.2.1.2.2.2.2.2.2.1 d.2.2.2.1.2.2.2.2.2.2.2.1 d.2.2.2.1.2.2.2.2.2.2.2.2.1 d.2.2.2.1.2.2.2.2.2.2.2.2.2.1 d.2.2.2.1.2.2.2.2.2.2.2.2.2.2.1 d.2.2.2.1.2.2.2.2.2.2.2.2.2.2.2.1 d.2.2.2.1.2.2.2.2.2.2.2.2.2.2.2.2.1 d.2.2.2.2.1.1 d.2.2.2.2.1.2.1 d.2.2.2.2.1.2.2.2.2.1 d.2.2.2.2.1.2.2.2.2.2.1 d.2.2.2.2.1.2.2.2.2.2.2.1 d.2.2.2.2.2.1 d.2.2.2.2.2.2.1) (.join 10 c14_J10 (fun d => j14_10 k d.2.1 d.2.2.1 d.2.2.2.1.1 d.2.2.2.1.2.1 d.2.2.2.1.2.2.1 d.2.2.2.1.2.2.2.1 d.2.2.2.1.2.2.2.2.1 d.2.2.2.1.2.2.2.2.2.1 d.2.2.2.1.2.2.2.2.2.2.1 d.2.2.2.1.2.2.2.2.2.2.2.1 d.2.2.2.1.2.2.2.2.2.2.2.2.1 d.2.2.2.1.2.2.2.2.2.2.2.2.2.1 d.2.2.2.1.2.2.2.2.2.2.2.2.2.2.1 d.2.2.2.1.2.2.2.2.2.2.2.2.2.2.2.1 d.2.2.2.1.2.2.2.2.2.2.2.2.2.2.2.2.1 d.2.2.2.2.1.1 d.2.2.2.2.1.2.1 d.2.2.2.2.1.2.2.2.2.1 d.2.2.2.2.1.2.2.2.2.2.1 d.2.2.2.2.1.2.2.2.2.2.2.1) .nil))) ⟨ok28, ok35, ok36, ok37, ok38, trivial⟩ Tryz.func14 rfl
def S27 (k : Nat) (a : Y0_20) : Option Y0_58 :=
 (S14 k a (-1) 0).bind fun q0 =>
 some ((q0.1.1, ()), ())
def F27 : Fn := ⟨[.val ⟨true, Y0_10, false⟩], [.val ⟨true, Y0_10, true⟩], fun k x => S27 k x.1⟩
theorem ok27 : FnOK Tryz.prog 27 F27 := okF [(14, F14)] [] (fun k => .nil) ⟨ok14, trivial⟩ Tryz.func27 rfl
def S122 (k : Nat) (a : Y0_71) : Option ((Y0_26 × Unit) × Unit) :=
 (S66 k a.1).bind fun q0 =>
 (S67 k a.2).bind fun q1 =>
 some (((q0.1.1, q1.1.1), ()), ())
def F122 : Fn := ⟨[.val ⟨true, Y0_29, false⟩], [.val ⟨true, Y0_29, true⟩], fun k x => S122 k x.1⟩
theorem ok122 : FnOK Tryz.prog 122 F122 := okF [(66, F66), (67, F67)] [] (fun k => .nil) ⟨ok66, ok67, trivial⟩ Tryz.func122 rfl
def S124 (k : Nat) (a : Y0_71) : Option Y0_12 :=
 some ((mn (a.1.length : Int) (a.2.length : Int), ()), ())
def F124 : Fn := ⟨[.val ⟨true, Y0_29, false⟩], [.val ⟨false, (.int .i64), true⟩], fun k x => S124 k x.1⟩
theorem ok124 : FnOK Tryz.prog 124 F124 := okF [] [] (fun k => .nil) trivial Tryz.func124 rfl
abbrev c123_L2 : Cut := ⟨[0, 1, 7, 8], [.cell Y0_57, .cell .bool, cI, cI], [], 19, []⟩
def l123_2 (k : Nat) (g2 : (List Bool) → Bool → Int → Int → Option Y0_12) (a : List Bool) (b : Bool) (c e : Int) : Option Y0_12 :=
 (bif decide (e < c) then
  ix a e <|
  (bif b == (rd a e false) then
   some ((e, ()), ())
  else
   g2 a b c (IntKind.i64.wrap (e + 1)))
 else
  some (((-1), ()), ()))
def b123_2 (k : Nat) (g : ((Unit) × (List Bool) × Bool × Int × Int × Unit) → Option Y0_12) : ((Unit) × (List Bool) × Bool × Int × Int × Unit) → Option Y0_12 := fun (_, a, b, c, e, _) => l123_2 k (fun a b c e => g ((), a, b, c, e, ())) a b c e
def L123_2 (k a : Nat) (b : List Bool) (c : Bool) (e f : Int) : Option Y0_12 := iter (R := Y0_53 × Unit) c123_L2 (b123_2 k) a ((), b, c, e, f, ())
theorem L123_2_s (k a b c e f) : L123_2 k (a + 1) b c e f = l123_2 k (L123_2 k a) b c e f := iter_succ _ _ _ _
def S123 (k : Nat) (a : List Bool) (b : Bool) : Option Y0_12 :=
 L123_2 k k a b (a.length : Int) 0
def F123 : Fn := ⟨[.val ⟨false, Y0_57, false⟩, .val ⟨false, .bool, false⟩], [.val ⟨false, (.int .i64), true⟩], fun k x => S123 k x.1 x.2.1⟩
theorem ok123 : FnOK Tryz.prog 123 F123 := okF [] [] (fun k => (.loop 2 c123_L2 (b123_2 k) (fun g => .nil) .nil)) trivial Tryz.func123 rfl
def S80 (k : Nat) (a : Y0_71) : Option ((Y0_26 × (Int × Int) × Bool × Unit) × Unit) :=
 (S122 k a).bind fun q0 =>
 (S124 k q0.1.1).bind fun q1 =>
 sx q0.1.1.2 0 q1.1.1 <|
 (S123 k (sub q0.1.1.2 0 q1.1.1) false).bind fun q2 =>
 (bif decide (q2.1.1 < 0) then
  some ((q0.1.1, (0, 0), false, ()), ())
 else
  ix q0.1.1.1 q2.1.1 <|
  ix q0.1.1.1 q2.1.1 <|
  ix q0.1.1.2 q2.1.1 <|
  ix (upd q0.1.1.1 q2.1.1 (IntKind.i64.wrap ((rd q0.1.1.1 q2.1.1 0) + 1))) q2.1.1 <|
  some (((upd q0.1.1.1 q2.1.1 (IntKind.i64.wrap ((rd q0.1.1.1 q2.1.1 0) + 1)), upd q0.1.1.2 q2.1.1 true), (q2.1.1, rd (upd q0.1.1.1 q2.1.1 (IntKind.i64.wrap ((rd q0.1.1.1 q2.1.1 0) + 1))) q2.1.1 0), true, ()), ()))
def F80 : Fn := ⟨[.val ⟨true, Y0_29, false⟩], [.val ⟨true, Y0_29, true⟩, .val ⟨true, Y0_16, true⟩, .val ⟨false, .bool, true⟩], fun k x => S80 k x.1⟩
theorem ok80 : FnOK Tryz.prog 80 F80 := okF [(122, F122), (123, F123), (124, F124)] [] (fun k => .nil) ⟨ok122, ok123, ok124, trivial⟩ Tryz.func80 rfl
def S82 (k : Nat) (a : Int) (b : Int × Int) : Option ((Y0_4 × Unit) × Unit) :=
 (bif a == 1 then
  some (((a, b, (8, 0), ([], []), (0, []), 0), ()), ())
 else
  some (((a, b, (0, 0), ([], []), (0, []), 0), ()), ()))
def F82 : Fn := ⟨[.val ⟨false, (.int .i64), false⟩, .val ⟨true, Y0_16, false⟩], [.val ⟨true, Y0_5, true⟩], fun k x => S82 k x.1 x.2.1⟩
theorem ok82 : FnOK Tryz.prog 82 F82 := okF [] [] (fun k => .nil) trivial Tryz.func82 rfl
abbrev c41_L4 : Cut := ⟨[1, 4, 5, 7, 8, 9, 20, 21, 22], [cI, .box 47 [.nil, .nil, .nil], .box 29 [cI, cI], .mp 110 false (.int .i64) false (.int .i64), .box 47 [.own 3 (.int .i64), .own 4 .bool, .own 95 Y0_5], cI, .cell (.sl 95 Y0_5), cI, cI], [], 72, []⟩
def l41_4 (k : Nat) (g4 : Int → Int → Int → Y0_14 → (List Int) → (List Bool) → (List Y0_4) → Int → (List Y0_4) → Int → Int → Option Y0_40) (a b c : Int) (e : Y0_31) (f : List Int) (h : List Bool) (i : List Y0_4) (l : Int) (m : List Y0_4) (n o : Int) : Option Y0_40 :=
 (bif decide (o < n) then
  ix m o <|
  (bif (rd m o (0, (0, 0), (0, 0), ([], []), (0, []), 0)).1 == a then
   g4 a b c e f h i (IntKind.i64.wrap (l + 1)) m n (IntKind.i64.wrap (o + 1))
  else
   g4 a b c e f h i l m n (IntKind.i64.wrap (o + 1)))
 else
  (S80 k (f, h)).bind fun q1 =>
  (bif decide (l ≥ (mget (.int .i64) (.int .i64) a e 0)) then
   some ((((f, h), i), (0, 0), false, ()), ())
  else
   (bif !q1.1.2.2.1 then
    some ((((f, h), i), (0, 0), false, ()), ())
   else
    (bif decide (q1.1.2.1.1 ≥ (i.length : Int)) then
     some ((((f, h), i), (0, 0), false, ()), ())
    else
     (S82 k a q1.1.2.1).bind fun q2 =>
     (S81 k q2.1.1).bind fun q3 =>
     ix i q1.1.2.1.1 <|
     some (((q1.1.1, upd i q1.1.2.1.1 q3.1.1), q1.1.2.1, true, ()), ())))))
def b41_4 (k : Nat) (g : ((Unit) × Int × (Unit × Unit × Unit × Unit) × (Int × Int × Unit) × Y0_14 × Y0_61 × Int × (List Y0_4) × Int × Int × Unit) → Option Y0_40) : ((Unit) × Int × (Unit × Unit × Unit × Unit) × (Int × Int × Unit) × Y0_14 × Y0_61 × Int × (List Y0_4) × Int × Int × Unit) → Option Y0_40 := fun (_, a, _, (b, c, _), e, (f, h, i, _), l, m, n, o, _) => l41_4 k (fun a b c e f h i l m n o => g ((), a, ((), (), (), ()), (b, c, ()), e, (f, h, i, ()), l, m, n, o, ())) a b c e f h i l m n o
def L41_4 (k a : Nat) (b c e : Int) (f : Y0_31) (h : List Int) (i : List Bool) (l : List Y0_4) (m : Int) (n : List Y0_4) (o p : Int) : Option Y0_40 := iter (R := ((Y0_26 × List Y0_4) × (Int × Int) × Bool × Unit) × Unit) c41_L4 (b41_4 k) a ((), b, ((), (), (), ()), (c, e, ()), f, (h, i, l, ()), m, n, o, p, ())
theorem L41_4_s (k a b c e f h i l m n o p) : L41_4 k (a + 1) b c e f h i l m n o p = l41_4 k (L41_4 k a) b c e f h i l m n o p := iter_succ _ _ _ _
def S41 (k : Nat) (a : Y0_26 × List Y0_4) (b : Int) : Option Y0_40 :=
 (S33 k a).bind fun q0 =>
 L41_4 k k b 0 0 (updD (.int .i64) (.int .i64) 3 4 (updD (.int .i64) (.int .i64) 2 4 (updD (.int .i64) (.int .i64) 1 4 ([] : List (Int × Int))))) q0.1.1.1.1 q0.1.1.1.2 q0.1.1.2 0 a.2 (a.2.length : Int) 0
def F41 : Fn := ⟨[.val ⟨true, Y0_55, false⟩, .val ⟨false, (.int .i64), false⟩], [.val ⟨true, Y0_55, true⟩, .val ⟨true, Y0_16, true⟩, .val ⟨false, .bool, true⟩], fun k x => S41 k x.1 x.2.1⟩
theorem ok41 : FnOK Tryz.prog 41 F41 := okF [(33, F33), (80, F80), (81, F81), (82, F82)] [] (fun k => (.loop 4 c41_L4 (b41_4 k) (fun g => .nil) .nil)) ⟨ok33, ok80, ok81, ok82, trivial⟩ Tryz.func41 rfl
abbrev c18_J3 : Cut := ⟨[0, 2], [.pin false 0, .mp 110 false (.int .i64) false (.int .i64)], [.mbox 77 [cI, cI, .cell Y0_39, .cell (.sl 134 Y0_35), .cell .bool, .cell .bool, .cell .bool, .cell (.sl 103 Y0_2), .cell Y0_18, .cell Y0_57, .cell (.sl 95 Y0_5), .cell Y0_18, .cell Y0_57, cI, cI, cI, cI, .cell Y0_25, .cell Y0_25, .cell Y0_25, cI, cI, cI, cI, .cell (.int .u32), .own 58 Y0_65, cI, cI, cI, cI]], 58, []⟩
def j18_3 (k : Nat) (a b : Int) (c : List Y0_0) (e : List (PN Int 5)) (f h i : Bool) (l : List Y0_3) (m : List Int) (n : List Bool) (o : List Y0_4) (p : List Int) (s : List Bool) (t u v w : Int) (y z A : List Y0_7) (B C D G H : Int) (I : List (PN Int 6)) (J K M N : Int) (O : Y0_31) : Option Y0_67 :=
 (S41 k ((m, n), o) (mget (.int .i64) (.int .i64) t O 0)).bind fun q0 =>
 (bif !q0.1.2.2.1 then
  some ((), (a, b, c, e, f, h, i, l, m, n, o, p, s, t, u, v, w, y, z, A, B, C, D, G, H, I, 4, K, M, N, ()), ())
 else
  some ((), (a, b, c, e, f, h, i, l, q0.1.1.1.1, q0.1.1.1.2, q0.1.1.2, p, s, t, u, v, w, y, z, A, B, C, D, G, H, I, J, q0.1.2.1.1, q0.1.2.1.2, N, ()), ()))
def S18 (k : Nat) (a b : Int) (c : List Y0_0) (e : List (PN Int 5)) (f h i : Bool) (l : List Y0_3) (m : List Int) (n : List Bool) (o : List Y0_4) (p : List Int) (s : List Bool) (t u v w : Int) (y z A : List Y0_7) (B C D G H : Int) (I : List (PN Int 6)) (J K M N : Int) : Option Y0_67 :=
 (bif t == 2 then
  (bif f then
   some ((), (a, b, c, e, f, h, i, l, m, n, o, p, s, t, u, v, w, y, z, A, B, C, D, G, H, I, 7, K, M, N, ()), ())
  else
   j18_3 k a b c e f h i l m n o p s t u v w y z A B C D G H I J K M N (updD (.int .i64) (.int .i64) 4 3 (updD (.int .i64) (.int .i64) 3 2 (updD (.int .i64) (.int .i64) 2 1 ([] : List (Int × Int))))))
 else
  j18_3 k a b c e f h i l m n o p s t u v w y z A B C D G H I J K M N (updD (.int .i64) (.int .i64) 4 3 (updD (.int .i64) (.int .i64) 3 2 (updD (.int .i64) (.int .i64) 2 1 ([] : List (Int × Int))))))
def F18 : Fn := ⟨[.mbox 77 [cI, cI, .cell Y0_39, .cell (.sl 134 Y0_35), .cell .bool, .cell .bool, .cell .bool, .cell (.sl 103 Y0_2), .cell Y0_18, .cell Y0_57, .cell (.sl 95 Y0_5), .cell Y0_18, .cell Y0_57, cI, cI, cI, cI, .cell Y0_25, .cell Y0_25, .cell Y0_25, cI, cI, cI, cI, .cell (.int .u32), .own 58 Y0_65, cI, cI, cI, cI]], [], fun k ((a, b, c, e, f, h, i, l, m, n, o, p, s, t, u, v, w, y, z, A, B, C, D, G, H, I, J, K, M, N, _), _) => S18 k a b c e f h i l m n o p s t u v w y z A B C D G H I J K M N⟩
theorem ok18 : FnOK Tryz.prog 18 F18 := okF [(41, F41)] [] (fun k => (.join 3 c18_J3 (fun d => j18_3 k d.1.1.1 d.1.1.2.1 d.1.1.2.2.1 d.1.1.2.2.2.1 d.1.1.2.2.2.2.1 d.1.1.2.2.2.2.2.1 d.1.1.2.2.2.2.2.2.1 d.1.1.2.2.2.2.2.2.2.1 d.1.1.2.2.2.2.2.2.2.2.1 d.1.1.2.2.2.2.2.2.2.2.2.1 d.1.1.2.2.2.2.2.2.2.2.2.2.1 d.1.1.2.2.2.2.2.2.2.2.2.2.2.1 d.1.1.2.2.2.2.2.2.2.2.2.2.2.2.1 d.1.1.2.2.2.2.2.2.2.2.2.2.2.2.2.1 d.1.1.2.2.2.2.2.2.2.2.2.2.2.2.2.2.1 d.1.1.2.2.2.2.2.2.2.2.2.2.2.2.2.2.2.1 d.1.1.2.2.2.2.2.2.2.2.2.2.2.2.2.2.2.2.1 d.1.1.2.2.2.2.2.2.2.2.2.2.2.2.2.2.2.2.2.1 d.1.1.2.2.2.2.2.2.2.2.2.2.2.2.2.2.2.2.2.2.1 d.1.1.2.2.2.2.2.2.2.2.2.2.2.2.2.2.2.2.2.2.2.1 d.1.1.2.2.2.2.2.2.2.2.2.2.2.2.2.2.2.2.2.2.2.2.1 d.1.1.2.2.2.2.2.2.2.2.2.2.2.2.2.2.2.2.2.2.2.2.2.1 d.1.1.2.2.2.2.2.2.2.2.2.2.2.2.2.2.2.2.2.2.2.2.2.2.1 d.1.1.2.2.2.2.2.2.2.2.2.2.2.2.2.2.2.2.2.2.2.2.2.2.2.1 d.1.1.2.2.2.2.2.2.2.2.2.2.2.2.2.2.2.2.2.2.2.2.2.2.2.2.1 d.1.1.2.2.2.2.2.2.2.2.2.2.2.2.2.2.2.2.2.2.2.2.2.2.2.2.2.1 d.1.1.2.2.2.2.2.2.2.2.2.2.2.2.2.2.2.2.2.2.2.2.2.2.2.2.2.2.1 d.1.1.2.2.2.2.2.2.2.2.2.2.2.2.2.2.2.2.2.2.2.2.2.2.2.2.2.2.2.1 d.1.1.2.2.2.2.2.2.2.2.2.2.2.2.2.2.2.2.2.2.2.2.2.2.2.2.2.2.2.2.1 d.1.1.2.2.2.2.2.2.2.2.2.2.2.2.2.2.2.2.2.2.2.2.2.2.2.2.2.2.2.2.2.1 d.2.2.1) .nil)) ⟨ok41, trivial⟩ Tryz.func18 rfl
abbrev c61_L2 : Cut := ⟨[2, 6, 7, 8], [.own 3 (.int .i64), .cell (.sl 95 Y0_5), cI, cI], [], 22, []⟩
def l61_2 (k : Nat) (g2 : (List Int) → (List Y0_4) → Int → Int → Option Y0_19) (a : List Int) (b : List Y0_4) (c e : Int) : Option Y0_19 :=
 (bif decide (e < c) then
  ix b e <|
  (bif (rd b e (0, (0, 0), (0, 0), ([], []), (0, []), 0)).1 == 1 then
   ap a ([e] : List Int) 8 fun r0 =>
   g2 r0 b c (IntKind.i64.wrap (e + 1))
  else
   g2 a b c (IntKind.i64.wrap (e + 1)))
 else
  some ((a, ()), ()))
def b61_2 (k : Nat) (g : ((Unit) × (List Int) × (List Y0_4) × Int × Int × Unit) → Option Y0_19) : ((Unit) × (List Int) × (List Y0_4) × Int × Int × Unit) → Option Y0_19 := fun (_, a, b, c, e, _) => l61_2 k (fun a b c e => g ((), a, b, c, e, ())) a b c e
def L61_2 (k a : Nat) (b : List Int) (c : List Y0_4) (e f : Int) : Option Y0_19 := iter (R := ((List Int) × Unit) × Unit) c61_L2 (b61_2 k) a ((), b, c, e, f, ())
theorem L61_2_s (k a b c e f) : L61_2 k (a + 1) b c e f = l61_2 k (L61_2 k a) b c e f := iter_succ _ _ _ _
def S61 (k : Nat) (a : Y0_26 × List Y0_4) : Option Y0_19 :=
 L61_2 k k ([] : List Int) a.2 (a.2.length : Int) 0
def F61 : Fn := ⟨[.val ⟨true, Y0_55, false⟩], [.val ⟨false, Y0_18, true⟩], fun k x => S61 k x.1⟩
theorem ok61 : FnOK Tryz.prog 61 F61 := okF [] [(2, 2)] (fun k => (.loop 2 c61_L2 (b61_2 k) (fun g => .nil) .nil)) trivial Tryz.func61 rfl
abbrev c63_L2 : Cut := ⟨[1, 2, 7, 8, 9], [.box 51 [cI, cI, .cell Y0_39, .cell (.sl 134 Y0_35), .cell .bool, .cell .bool, .cell .bool, .cell (.sl 103 Y0_2), .cell Y0_18, .cell Y0_57, .cell (.sl 95 Y0_5), .cell Y0_18, .cell Y0_57], .own 87 Y0_16, .own 3 (.int .i64), cI, cI], [], 25, []⟩
def l63_2 (k : Nat) (g2 : Int → Int → (List Y0_0) → Y0_68 → Bool → Bool → Bool → (List Y0_3) → (List Int) → (List Bool) → (List Y0_4) → (List Int) → (List Bool) → Y0_14 → (List Int) → Int → Int → Option Y0_32) (a b : Int) (c : List Y0_0) (e : List (PN Int 5)) (f h i : Bool) (l : List Y0_3) (m : List Int) (n : List Bool) (o : List Y0_4) (p : List Int) (s : List Bool) (t : Y0_31) (u : List Int) (v w : Int) : Option Y0_32 :=
 (bif decide (w < v) then
  ix u w <|
  ix o (rd u w 0) <|
  ap t ([(rd o (rd u w 0) (0, (0, 0), (0, 0), ([], []), (0, []), 0)).2.2.1] : List (Int × Int)) 16 fun r1 =>
  g2 a b c e f h i l m n o p s r1 u v (IntKind.i64.wrap (w + 1))
 else
  some ((t, ()), ()))
def b63_2 (k : Nat) (g : ((Unit) × Y0_9 × Y0_14 × (List Int) × Int × Int × Unit) → Option Y0_32) : ((Unit) × Y0_9 × Y0_14 × (List Int) × Int × Int × Unit) → Option Y0_32 := fun (_, (a, b, c, e, f, h, i, l, m, n, o, p, s, _), t, u, v, w, _) => l63_2 k (fun a b c e f h i l m n o p s t u v w => g ((), (a, b, c, e, f, h, i, l, m, n, o, p, s, ()), t, u, v, w, ())) a b c e f h i l m n o p s t u v w
def L63_2 (k a : Nat) (b c : Int) (e : List Y0_0) (f : List (PN Int 5)) (h i l : Bool) (m : List Y0_3) (n : List Int) (o : List Bool) (p : List Y0_4) (s : List Int) (t : List Bool) (u : Y0_31) (v : List Int) (w y : Int) : Option Y0_32 := iter (R := (Y0_14 × Unit) × Unit) c63_L2 (b63_2 k) a ((), (b, c, e, f, h, i, l, m, n, o, p, s, t, ()), u, v, w, y, ())
theorem L63_2_s (k a b c e f h i l m n o p s t u v w y) : L63_2 k (a + 1) b c e f h i l m n o p s t u v w y = l63_2 k (L63_2 k a) b c e f h i l m n o p s t u v w y := iter_succ _ _ _ _
def S63 (k : Nat) (a : Y0_20) : Option Y0_32 :=
 (S61 k a.2.2.2.2.2.2.2.2.1).bind fun q0 =>
 L63_2 k k a.1 a.2.1 a.2.2.1 a.2.2.2.1 a.2.2.2.2.1 a.2.2.2.2.2.1 a.2.2.2.2.2.2.1 a.2.2.2.2.2.2.2.1 a.2.2.2.2.2.2.2.2.1.1.1 a.2.2.2.2.2.2.2.2.1.1.2 a.2.2.2.2.2.2.2.2.1.2 a.2.2.2.2.2.2.2.2.2.1 a.2.2.2.2.2.2.2.2.2.2 ([] : List (Int × Int)) q0.1.1 (q0.1.1.length : Int) 0
def F63 : Fn := ⟨[.val ⟨true, Y0_10, false⟩], [.val ⟨false, (.sl 87 Y0_16), true⟩], fun k x => S63 k x.1⟩
theorem ok63 : FnOK Tryz.prog 63 F63 := okF [(61, F61)] [(2, 2)] (fun k => (.loop 2 c63_L2 (b63_2 k) (fun g => .nil) .nil)) ⟨ok61, trivial⟩ Tryz.func63 rfl
def S85 (k : Nat) (a : Int × Int × Int × Int) (b : Y0_31) : Option Y0_15 :=
 (bif a.1 == 9 then
  some ((decide (a.2.1 ≥ (b.length : Int)), ()), ())
 else
  some ((false, ()), ()))
def F85 : Fn := ⟨[.val ⟨true, Y0_6, false⟩, .pv (.ref (.sl 87 Y0_16))], [.val ⟨false, .bool, true⟩], fun k x => S85 k x.1 x.2.1⟩
theorem ok85 : FnOK Tryz.prog 85 F85 := okF [] [] (fun k => .nil) trivial Tryz.func85 rfl
abbrev c125d_L2 : Cut := ⟨[0, 1, 7, 8], [.cell Y0_25, .clo 85 [.ref (.sl 87 Y0_16)], cI, cI], [], 19, []⟩
def l125d_2 (k : Nat) (g2 : (List Y0_7) → Y0_14 → Int → Int → Option Y0_12) (a : List Y0_7) (b : Y0_31) (c e : Int) : Option Y0_12 :=
 (bif decide (e < c) then
  ix a e <|
  (S85 k (rd a e (0, 0, 0, 0)) b).bind fun q0 =>
  (bif q0.1.1 then
   some ((e, ()), ())
  else
   g2 a b c (IntKind.i64.wrap (e + 1)))
 else
  some (((-1), ()), ()))
def b125d_2 (k : Nat) (g : ((Unit) × (List Y0_7) × (Y0_14 × Unit) × Int × Int × Unit) → Option Y0_12) : ((Unit) × (List Y0_7) × (Y0_14 × Unit) × Int × Int × Unit) → Option Y0_12 := fun (_, a, (b, _), c, e, _) => l125d_2 k (fun a b c e => g ((), a, (b, ()), c, e, ())) a b c e
def L125d_2 (k a : Nat) (b : List Y0_7) (c : Y0_31) (e f : Int) : Option Y0_12 := iter (R := Y0_53 × Unit) c125d_L2 (b125d_2 k) a ((), b, (c, ()), e, f, ())
theorem L125d_2_s (k a b c e f) : L125d_2 k (a + 1) b c e f = l125d_2 k (L125d_2 k a) b c e f := iter_succ _ _ _ _
def S125d (k : Nat) (a : List Y0_7) (b : Y0_31) : Option Y0_12 :=
 L125d_2 k k a b (a.length : Int) 0
def F125d : Fn := ⟨[.val ⟨false, Y0_25, false⟩, .pv (.clo 85 [.ref (.sl 87 Y0_16)])], [.val ⟨false, (.int .i64), true⟩], fun k x => S125d k x.1 x.2.1.1⟩
theorem ok125d : FnOK Tryz.prog 125 F125d := okF [(85, F85)] [] (fun k => (.loop 2 c125d_L2 (b125d_2 k) (fun g => .nil) .nil)) ⟨ok85, trivial⟩ Tryz.func125 rfl
def S83c (k : Nat) (a : List Y0_7) (b : Y0_31) : Option Y0_15 :=
 (S125d k a b).bind fun q0 =>
 some ((decide (q0.1.1 ≥ 0), ()), ())
def F83c : Fn := ⟨[.val ⟨false, Y0_25, false⟩, .pv (.clo 85 [.ref (.sl 87 Y0_16)])], [.val ⟨false, .bool, true⟩], fun k x => S83c k x.1 x.2.1.1⟩
theorem ok83c : FnOK Tryz.prog 83 F83c := okF [(125, F125d)] [] (fun k => .nil) ⟨ok125d, trivial⟩ Tryz.func83 rfl
abbrev c87_L1 : Cut := ⟨[0, 1, 11, 12, 13], [.pin false 0, .cell (.sl 87 Y0_16), .own 3 (.int .i64), cI, cI], [.mbox 51 [cI, cI, .cell Y0_39, .own 134 Y0_35, .cell .bool, .cell .bool, .cell .bool, .own 103 Y0_2, .own 3 (.int .i64), .own 4 .bool, .own 95 Y0_5, .own 3 (.int .i64), .own 4 .bool]], 55, []⟩
def l87_1 (k : Nat) (g1 : Int → Int → (List Y0_0) → Y0_68 → Bool → Bool → Bool → (List Y0_3) → (List Int) → (List Bool) → (List Y0_4) → (List Int) → (List Bool) → Y0_14 → (List Int) → Int → Int → Option ((Unit) × Y0_9 × Unit)) (a b : Int) (c : List Y0_0) (e : List (PN Int 5)) (f h i : Bool) (l : List Y0_3) (m : List Int) (n : List Bool) (o : List Y0_4) (p : List Int) (s : List Bool) (t : Y0_31) (u : List Int) (v w : Int) : Option ((Unit) × Y0_9 × Unit) :=
 (bif decide (w < v) then
  ix u w <|
  ix o (rd u w 0) <|
  (bif decide (w < (t.length : Int)) then
   ix t w <|
   (bif !(beqD Y0_16 (rd o (rd u w 0) (0, (0, 0), (0, 0), ([], []), (0, []), 0)).2.2.1 (rd t w (0, 0))) then
    ix t w <|
    (S46 k ((m, n), o) (rd u w 0) ((rd o (rd u w 0) (0, (0, 0), (0, 0), ([], []), (0, []), 0)).1, (rd o (rd u w 0) (0, (0, 0), (0, 0), ([], []), (0, []), 0)).2.1, rd t w (0, 0), (rd o (rd u w 0) (0, (0, 0), (0, 0), ([], []), (0, []), 0)).2.2.2)).bind fun q1 =>
    g1 a b c e f h i l q1.1.1.1.1 q1.1.1.1.2 q1.1.1.2 p s t u v (IntKind.i64.wrap (w + 1))
   else
    g1 a b c e f h i l m n o p s t u v (IntKind.i64.wrap (w + 1)))
  else
   g1 a b c e f h i l m n o p s t u v (IntKind.i64.wrap (w + 1)))
 else
  some ((), (a, b, c, e, f, h, i, l, m, n, o, p, s, ()), ()))
def b87_1 (k : Nat) (g : ((Y0_9 × Unit) × Unit × Y0_14 × (List Int) × Int × Int × Unit) → Option ((Unit) × Y0_9 × Unit)) : ((Y0_9 × Unit) × Unit × Y0_14 × (List Int) × Int × Int × Unit) → Option ((Unit) × Y0_9 × Unit) := fun (((a, b, c, e, f, h, i, l, m, n, o, p, s, _), _), _, t, u, v, w, _) => l87_1 k (fun a b c e f h i l m n o p s t u v w => g (((a, b, c, e, f, h, i, l, m, n, o, p, s, ()), ()), (), t, u, v, w, ())) a b c e f h i l m n o p s t u v w
def L87_1 (k a : Nat) (b c : Int) (e : List Y0_0) (f : List (PN Int 5)) (h i l : Bool) (m : List Y0_3) (n : List Int) (o : List Bool) (p : List Y0_4) (s : List Int) (t : List Bool) (u : Y0_31) (v : List Int) (w y : Int) : Option ((Unit) × Y0_9 × Unit) := iter (R := (Unit) × Y0_9 × Unit) c87_L1 (b87_1 k) a (((b, c, e, f, h, i, l, m, n, o, p, s, t, ()), ()), (), u, v, w, y, ())
theorem L87_1_s (k a b c e f h i l m n o p s t u v w y) : L87_1 k (a + 1) b c e f h i l m n o p s t u v w y = l87_1 k (L87_1 k a) b c e f h i l m n o p s t u v w y := iter_succ _ _ _ _
def S87 (k : Nat) (a b : Int) (c : List Y0_0) (e : List (PN Int 5)) (f h i : Bool) (l : List Y0_3) (m : List Int) (n : List Bool) (o : List Y0_4) (p : List Int) (s : List Bool) (t : Y0_31) : Option ((Unit) × Y0_9 × Unit) :=
 (S61 k ((m, n), o)).bind fun q0 =>
 L87_1 k k a b c e f h i l m n o p s t q0.1.1 (q0.1.1.length : Int) 0
def F87 : Fn := ⟨[.mbox 51 [cI, cI, .cell Y0_39, .own 134 Y0_35, .cell .bool, .cell .bool, .cell .bool, .own 103 Y0_2, .own 3 (.int .i64), .own 4 .bool, .own 95 Y0_5, .own 3 (.int .i64), .own 4 .bool], .val ⟨false, (.sl 87 Y0_16), false⟩], [], fun k ((a, b, c, e, f, h, i, l, m, n, o, p, s, _), t, _) => S87 k a b c e f h i l m n o p s t⟩
theorem ok87 : FnOK Tryz.prog 87 F87 := okF [(46, F46), (61, F61)] [] (fun k => (.loop 1 c87_L1 (b87_1 k) (fun g => .nil) .nil)) ⟨ok46, ok61, trivial⟩ Tryz.func87 rfl
abbrev c42_L12 : Cut := ⟨[1, 2, 4, 33, 34], [.box 51 [cI, cI, .cell Y0_39, .own 134 Y0_35, .cell .bool, .cell .bool, .cell .bool, .own 103 Y0_2, .own 3 (.int .i64), .own 4 .bool, .own 95 Y0_5, .own 3 (.int .i64), .own 4 .bool], .box 51 [cI, cI, .nil, .nil, .cell .bool, .cell .bool, .cell .bool, .nil, .nil, .nil, .nil, .nil, .nil], .box 147 [.own 87 Y0_16], cI, cI], [], 50, []⟩
def l42_12 (k : Nat) (g12 : Int → Int → (List Y0_0) → Y0_68 → Bool → Bool → Bool → (List Y0_3) → (List Int) → (List Bool) → (List Y0_4) → (List Int) → (List Bool) → Int → Int → Bool → Bool → Bool → Y0_14 → Int → Int → Option Y0_44) (a b : Int) (c : List Y0_0) (e : List (PN Int 5)) (f h i : Bool) (l : List Y0_3) (m : List Int) (n : List Bool) (o : List Y0_4) (p : List Int) (s : List Bool) (t u : Int) (v w y : Bool) (z : Y0_31) (A B : Int) : Option Y0_44 :=
 (bif decide (B < A) then
  (S86 k c B).bind fun q4 =>
  ix z B <|
  g12 a b c e f h i l m n o p s t u v w y (upd z B (q4.1.1, (rd z B (0, 0)).2)) A (IntKind.i64.wrap (B + 1))
 else
  (S87 k a b c e f h i l m n o p s z).bind fun q5 =>
  some (((q5.2.1.1, q5.2.1.2.1, q5.2.1.2.2.1, q5.2.1.2.2.2.1, true, q5.2.1.2.2.2.2.2.1, q5.2.1.2.2.2.2.2.2.1, q5.2.1.2.2.2.2.2.2.2.1, ((q5.2.1.2.2.2.2.2.2.2.2.1, q5.2.1.2.2.2.2.2.2.2.2.2.1), q5.2.1.2.2.2.2.2.2.2.2.2.2.1), q5.2.1.2.2.2.2.2.2.2.2.2.2.2.1, q5.2.1.2.2.2.2.2.2.2.2.2.2.2.2.1), 0, ()), ()))
def b42_12 (k : Nat) (g : ((Unit) × Y0_9 × Y0_21 × (Y0_14 × Unit) × Int × Int × Unit) → Option Y0_44) : ((Unit) × Y0_9 × Y0_21 × (Y0_14 × Unit) × Int × Int × Unit) → Option Y0_44 := fun (_, (a, b, c, e, f, h, i, l, m, n, o, p, s, _), (t, u, _, _, v, w, y, _), (z, _), A, B, _) => l42_12 k (fun a b c e f h i l m n o p s t u v w y z A B => g ((), (a, b, c, e, f, h, i, l, m, n, o, p, s, ()), (t, u, (), (), v, w, y, (), (), (), (), (), (), ()), (z, ()), A, B, ())) a b c e f h i l m n o p s t u v w y z A B
def L42_12 (k a : Nat) (b c : Int) (e : List Y0_0) (f : List (PN Int 5)) (h i l : Bool) (m : List Y0_3) (n : List Int) (o : List Bool) (p : List Y0_4) (s : List Int) (t : List Bool) (u v : Int) (w y z : Bool) (A : Y0_31) (B C : Int) : Option Y0_44 := iter (R := (Y0_8 × Int × Unit) × Unit) c42_L12 (b42_12 k) a ((), (b, c, e, f, h, i, l, m, n, o, p, s, t, ()), (u, v, (), (), w, y, z, (), (), (), (), (), (), ()), (A, ()), B, C, ())
theorem L42_12_s (k a b c e f h i l m n o p s t u v w y z A B C) : L42_12 k (a + 1) b c e f h i l m n o p s t u v w y z A B C = l42_12 k (L42_12 k a) b c e f h i l m n o p s t u v w y z A B C := iter_succ _ _ _ _
abbrev c42_L6 : Cut := ⟨[1, 2, 4, 16, 17, 18], [.box 51 [cI, cI, .cell Y0_39, .own 134 Y0_35, .cell .bool, .cell .bool, .cell .bool, .own 103 Y0_2, .own 3 (.int .i64), .own 4 .bool, .own 95 Y0_5, .own 3 (.int .i64), .own 4 .bool], .box 51 [cI, cI, .nil, .nil, .cell .bool, .cell .bool, .cell .bool, .nil, .nil, .nil, .nil, .nil, .nil], .box 147 [.own 87 Y0_16], .cell Y0_39, cI, cI], [], 50, []⟩
def l42_6 (k : Nat) (g6 : Int → Int → (List Y0_0) → Y0_68 → Bool → Bool → Bool → (List Y0_3) → (List Int) → (List Bool) → (List Y0_4) → (List Int) → (List Bool) → Int → Int → Bool → Bool → Bool → Y0_14 → (List Y0_0) → Int → Int → Option Y0_44) (a b : Int) (c : List Y0_0) (e : List (PN Int 5)) (f h i : Bool) (l : List Y0_3) (m : List Int) (n : List Bool) (o : List Y0_4) (p : List Int) (s : List Bool) (t u : Int) (v w y : Bool) (z : Y0_31) (A : List Y0_0) (B C : Int) : Option Y0_44 :=
 (bif decide (C < B) then
  ix A C <|
  (S84 k ([(rd A C (0, 0, 0, [], [], [])).2.2.2.1, (rd A C (0, 0, 0, [], [], [])).2.2.2.2.1] : List (List Y0_7))).bind fun q2 =>
  (S83c k q2.1.1 z).bind fun q3 =>
  (bif q3.1.1 then
   some (((a, b, c, e, f, h, i, l, ((m, n), o), p, s), 4, ()), ())
  else
   g6 a b c e f h i l m n o p s t u v w y z A B (IntKind.i64.wrap (C + 1)))
 else
  L42_12 k k a b c e f h i l m n o p s t u v w y z (z.length : Int) 0)
def b42_6 (k : Nat) (g : ((Unit) × Y0_9 × Y0_21 × (Y0_14 × Unit) × (List Y0_0) × Int × Int × Unit) → Option Y0_44) : ((Unit) × Y0_9 × Y0_21 × (Y0_14 × Unit) × (List Y0_0) × Int × Int × Unit) → Option Y0_44 := fun (_, (a, b, c, e, f, h, i, l, m, n, o, p, s, _), (t, u, _, _, v, w, y, _), (z, _), A, B, C, _) => l42_6 k (fun a b c e f h i l m n o p s t u v w y z A B C => g ((), (a, b, c, e, f, h, i, l, m, n, o, p, s, ()), (t, u, (), (), v, w, y, (), (), (), (), (), (), ()), (z, ()), A, B, C, ())) a b c e f h i l m n o p s t u v w y z A B C
def L42_6 (k a : Nat) (b c : Int) (e : List Y0_0) (f : List (PN Int 5)) (h i l : Bool) (m : List Y0_3) (n : List Int) (o : List Bool) (p : List Y0_4) (s : List Int) (t : List Bool) (u v : Int) (w y z : Bool) (A : Y0_31) (B : List Y0_0) (C D : Int) : Option Y0_44 := iter (R := (Y0_8 × Int × Unit) × Unit) c42_L6 (b42_6 k) a ((), (b, c, e, f, h, i, l, m, n, o, p, s, t, ()), (u, v, (), (), w, y, z, (), (), (), (), (), (), ()), (A, ()), B, C, D, ())
theorem L42_6_s (k a b c e f h i l m n o p s t u v w y z A B C D) : L42_6 k (a + 1) b c e f h i l m n o p s t u v w y z A B C D = l42_6 k (L42_6 k a) b c e f h i l m n o p s t u v w y z A B C D := iter_succ _ _ _ _
def S42 (k : Nat) (a : Y0_20) : Option Y0_44 :=
 (S28 k a).bind fun q0 =>
 (bif q0.1.1.2.2.2.2.1 then
  some ((q0.1.1, 7, ()), ())
 else
  (S63 k q0.1.1).bind fun q1 =>
  L42_6 k k q0.1.1.1 q0.1.1.2.1 q0.1.1.2.2.1 q0.1.1.2.2.2.1 q0.1.1.2.2.2.2.1 q0.1.1.2.2.2.2.2.1 q0.1.1.2.2.2.2.2.2.1 q0.1.1.2.2.2.2.2.2.2.1 q0.1.1.2.2.2.2.2.2.2.2.1.1.1 q0.1.1.2.2.2.2.2.2.2.2.1.1.2 q0.1.1.2.2.2.2.2.2.2.2.1.2 q0.1.1.2.2.2.2.2.2.2.2.2.1 q0.1.1.2.2.2.2.2.2.2.2.2.2 0 0 false false false q1.1.1 q0.1.1.2.2.1 (q0.1.1.2.2.1.length : Int) 0)
def F42 : Fn := ⟨[.val ⟨true, Y0_10, false⟩], [.val ⟨true, Y0_10, false⟩, .val ⟨false, (.int .i64), true⟩], fun k x => S42 k x.1⟩
theorem ok42 : FnOK Tryz.prog 42 F42 := okF [(28, F28), (63, F63), (83, F83c), (84, F84), (86, F86), (87, F87)] [] (fun k => (.loop 12 c42_L12 (b42_12 k) (fun g => .nil) (.loop 6 c42_L6 (b42_6 k) (fun g => .nil) .nil))) ⟨ok28, ok63, ok83c, ok84, ok86, ok87, trivial⟩ Tryz.func42 rfl
def S19 (k : Nat) (a b : Int) (c : List Y0_0) (e : List (PN Int 5)) (f h i : Bool) (l : List Y0_3) (m : List Int) (n : List Bool) (o : List Y0_4) (p : List Int) (s : List Bool) (t u v w : Int) (y z A : List Y0_7) (B C D G H : Int) (I : List (PN Int 6)) (J K M N : Int) : Option Y0_67 :=
 (S42 k (a, b, c, e, f, h, i, l, ((m, n), o), p, s)).bind fun q0 =>
 (bif q0.1.2.1 == 0 then
  (S16 k (q0.1.1.2.2.1.length : Int)).bind fun q1 =>
  some ((), (q0.1.1.1, q0.1.1.2.1, q0.1.1.2.2.1, q0.1.1.2.2.2.1, q0.1.1.2.2.2.2.1, q0.1.1.2.2.2.2.2.1, q0.1.1.2.2.2.2.2.2.1, q0.1.1.2.2.2.2.2.2.2.1, q0.1.1.2.2.2.2.2.2.2.2.1.1.1, q0.1.1.2.2.2.2.2.2.2.2.1.1.2, q0.1.1.2.2.2.2.2.2.2.2.1.2, q1.1.1.1, q1.1.1.2, t, u, v, w, y, z, A, B, C, D, G, H, I, q0.1.2.1, K, M, N, ()), ())
 else
  some ((), (a, b, c, e, f, h, i, l, m, n, o, p, s, t, u, v, w, y, z, A, B, C, D, G, H, I, q0.1.2.1, K, M, N, ()), ()))
def F19 : Fn := ⟨[.mbox 77 [cI, cI, .cell Y0_39, .cell (.sl 134 Y0_35), .cell .bool, .cell .bool, .cell .bool, .cell (.sl 103 Y0_2), .cell Y0_18, .cell Y0_57, .cell (.sl 95 Y0_5), .cell Y0_18, .cell Y0_57, cI, cI, cI, cI, .cell Y0_25, .cell Y0_25, .cell Y0_25, cI, cI, cI, cI, .cell (.int .u32), .own 58 Y0_65, cI, cI, cI, cI]], [], fun k ((a, b, c, e, f, h, i, l, m, n, o, p, s, t, u, v, w, y, z, A, B, C, D, G, H, I, J, K, M, N, _), _) => S19 k a b c e f h i l m n o p s t u v w y z A B C D G H I J K M N⟩
theorem ok19 : FnOK Tryz.prog 19 F19 := okF [(16, F16), (42, F42)] [] (fun k => .nil) ⟨ok16, ok42, trivial⟩ Tryz.func19 rfl
def S20 (k : Nat) (a b : Int) (c : List Y0_0) (e : List (PN Int 5)) (f h i : Bool) (l : List Y0_3) (m : List Int) (n : List Bool) (o : List Y0_4) (p : List Int) (s : List Bool) (t u v w : Int) (y z A : List Y0_7) (B C D G H : Int) (I : List (PN Int 6)) (J K M N : Int) : Option Y0_67 :=
 (S14 k (a, b, c, e, f, h, i, l, ((m, n), o), p, s) D G).bind fun q0 =>
 some ((), (q0.1.1.1, q0.1.1.2.1, q0.1.1.2.2.1, q0.1.1.2.2.2.1, q0.1.1.2.2.2.2.1, q0.1.1.2.2.2.2.2.1, q0.1.1.2.2.2.2.2.2.1, q0.1.1.2.2.2.2.2.2.2.1, q0.1.1.2.2.2.2.2.2.2.2.1.1.1, q0.1.1.2.2.2.2.2.2.2.2.1.1.2, q0.1.1.2.2.2.2.2.2.2.2.1.2, q0.1.1.2.2.2.2.2.2.2.2.2.1, q0.1.1.2.2.2.2.2.2.2.2.2.2, t, u, v, w, y, z, A, B, C, D, G, H, q0.1.2.1, q0.1.2.2.1, K, M, N, ()), ())
def F20 : Fn := ⟨[.mbox 77 [cI, cI, .cell Y0_39, .cell (.sl 134 Y0_35), .cell .bool, .cell .bool, .cell .bool, .cell (.sl 103 Y0_2), .cell Y0_18, .cell Y0_57, .cell (.sl 95 Y0_5), .cell Y0_18, .cell Y0_57, cI, cI, cI, cI, .cell Y0_25, .cell Y0_25, .cell Y0_25, cI, cI, cI, cI, .cell (.int .u32), .own 58 Y0_65, cI, cI, cI, cI]], [], fun k ((a, b, c, e, f, h, i, l, m, n, o, p, s, t, u, v, w, y, z, A, B, C, D, G, H, I, J, K, M, N, _), _) => S20 k a b c e f h i l m n o p s t u v w y z A B C D G H I J K M N⟩
theorem ok20 : FnOK Tryz.prog 20 F20 := okF [(14, F14)] [] (fun k => .nil) ⟨ok14, trivial⟩ Tryz.func20 rfl
abbrev c170_L3 : Cut := ⟨[1, 3, 7, 8], [.box 44 [.cell Y0_18, .cell Y0_57], .mp 276 true Y0_16 false .bool, cI, cI], [], 26, []⟩
def l170_3 (k : Nat) (g3 : (List Int) → (List Bool) → (List Y0_73) → Int → Int → Option Y0_47) (a : List Int) (b : List Bool) (c : List Y0_73) (e f : Int) : Option Y0_47 :=
 (bif decide (f < e) then
  ix b f <|
  (bif rd b f false then
   ix a f <|
   g3 a b (updD Y0_16 .bool (f, rd a f 0) true c) e (IntKind.i64.wrap (f + 1))
  else
   g3 a b c e (IntKind.i64.wrap (f + 1)))
 else
  some ((c, ()), ()))
def b170_3 (k : Nat) (g : ((Unit) × ((List Int) × (List Bool) × Unit) × (List Y0_73) × Int × Int × Unit) → Option Y0_47) : ((Unit) × ((List Int) × (List Bool) × Unit) × (List Y0_73) × Int × Int × Unit) → Option Y0_47 := fun (_, (a, b, _), c, e, f, _) => l170_3 k (fun a b c e f => g ((), (a, b, ()), c, e, f, ())) a b c e f
def L170_3 (k a : Nat) (b : List Int) (c : List Bool) (e : List Y0_73) (f h : Int) : Option Y0_47 := iter (R := ((List Y0_73) × Unit) × Unit) c170_L3 (b170_3 k) a ((), (b, c, ()), e, f, h, ())
theorem L170_3_s (k a b c e f h) : L170_3 k (a + 1) b c e f h = l170_3 k (L170_3 k a) b c e f h := iter_succ _ _ _ _
def S170 (k : Nat) (a : Y0_71) : Option Y0_47 :=
 (S124 k a).bind fun q0 =>
 L170_3 k k a.1 a.2 ([] : List Y0_73) q0.1.1 0
def F170 : Fn := ⟨[.val ⟨true, Y0_29, false⟩], [.pv (.mp 276 true Y0_16 false .bool)], fun k x => S170 k x.1⟩
theorem ok170 : FnOK Tryz.prog 170 F170 := okF [(124, F124)] [] (fun k => (.loop 3 c170_L3 (b170_3 k) (fun g => .nil) .nil)) ⟨ok124, trivial⟩ Tryz.func170 rfl
def S129 (k : Nat) (a : Y0_71) (b : Int × Int) : Option Y0_15 :=
 (S170 k a).bind fun q0 =>
 some ((mget Y0_16 .bool b q0.1.1 false, ()), ())
def F129 : Fn := ⟨[.val ⟨true, Y0_29, false⟩, .val ⟨true, Y0_16, false⟩], [.val ⟨false, .bool, true⟩], fun k x => S129 k x.1 x.2.1⟩
theorem ok129 : FnOK Tryz.prog 129 F129 := okF [(170, F170)] [] (fun k => .nil) ⟨ok170, trivial⟩ Tryz.func129 rfl
def S88 (k : Nat) (a : Y0_26 × List Y0_4) (b : Int × Int) : Option Y0_34 :=
 (S129 k a.1 b).bind fun q0 =>
 (bif !q0.1.1 then
  some ((0, false, ()), ())
 else
  (S34 k a b.1).bind fun q1 =>
  (bif !q1.1.1 then
   some ((0, false, ()), ())
  else
   some ((b.1, true, ()), ())))
def F88 : Fn := ⟨[.val ⟨true, Y0_55, false⟩, .val ⟨true, Y0_16, false⟩], [.val ⟨false, (.int .i64), true⟩, .val ⟨false, .bool, true⟩], fun k x => S88 k x.1 x.2.1⟩
theorem ok88 : FnOK Tryz.prog 88 F88 := okF [(34, F34), (129, F129)] [] (fun k => .nil) ⟨ok34, ok129, trivial⟩ Tryz.func88 rfl
def S43 (k : Nat) (a b : Int) (c : List Y0_0) (e : List (PN Int 5)) (f h i : Bool) (l : List Y0_3) (m : List Int) (n : List Bool) (o : List Y0_4) (p : List Int) (s : List Bool) (t u v w : Int) (y z A : List Y0_7) (B C D G H : Int) (I : List (PN Int 6)) (J K M N O : Int) : Option ((Int × Y0_4 × Bool × Unit) × Y0_11 × Unit) :=
 (S88 k ((m, n), o) (B, C)).bind fun q0 =>
 (bif !q0.1.2.1 then
  some ((0, (0, (0, 0), (0, 0), ([], []), (0, []), 0), false, ()), (a, b, c, e, f, h, i, l, m, n, o, p, s, t, u, v, w, y, z, A, B, C, D, G, H, I, 3, K, M, N, ()), ())
 else
  ix o q0.1.1 <|
  (bif (rd o q0.1.1 (0, (0, 0), (0, 0), ([], []), (0, []), 0)).1 != O then
   some ((0, (0, (0, 0), (0, 0), ([], []), (0, []), 0), false, ()), (a, b, c, e, f, h, i, l, m, n, o, p, s, t, u, v, w, y, z, A, B, C, D, G, H, I, 3, K, M, N, ()), ())
  else
   ix o q0.1.1 <|
   some ((q0.1.1, rd o q0.1.1 (0, (0, 0), (0, 0), ([], []), (0, []), 0), true, ()), (a, b, c, e, f, h, i, l, m, n, o, p, s, t, u, v, w, y, z, A, B, C, D, G, H, I, J, K, M, N, ()), ())))
def F43 : Fn := ⟨[.mbox 77 [cI, cI, .cell Y0_39, .cell (.sl 134 Y0_35), .cell .bool, .cell .bool, .cell .bool, .cell (.sl 103 Y0_2), .cell Y0_18, .cell Y0_57, .cell (.sl 95 Y0_5), .cell Y0_18, .cell Y0_57, cI, cI, cI, cI, .cell Y0_25, .cell Y0_25, .cell Y0_25, cI, cI, cI, cI, .cell (.int .u32), .own 58 Y0_65, cI, cI, cI, cI], .val ⟨false, (.int .i64), false⟩], [.val ⟨false, (.int .i64), true⟩, .val ⟨true, Y0_5, false⟩, .val ⟨false, .bool, true⟩], fun k ((a, b, c, e, f, h, i, l, m, n, o, p, s, t, u, v, w, y, z, A, B, C, D, G, H, I, J, K, M, N, _), O, _) => S43 k a b c e f h i l m n o p s t u v w y z A B C D G H I J K M N O⟩
theorem ok43 : FnOK Tryz.prog 43 F43 := okF [(88, F88)] [] (fun k => .nil) ⟨ok88, trivial⟩ Tryz.func43 rfl
def S89 (k : Nat) (a : (List Int) × List Int) : Option ((((List Int) × List Int) × Unit) × Unit) :=
 (S111 k a.1).bind fun q0 =>
 (S66 k a.2).bind fun q1 =>
 some (((q0.1.1, q1.1.1), ()), ())
def F89 : Fn := ⟨[.val ⟨true, (.pair Y0_62 Y0_18), false⟩], [.val ⟨true, (.pair Y0_62 Y0_18), true⟩], fun k x => S89 k x.1⟩
theorem ok89 : FnOK Tryz.prog 89 F89 := okF [(66, F66), (111, F111)] [] (fun k => .nil) ⟨ok66, ok111, trivial⟩ Tryz.func89 rfl
def S44 (k : Nat) (a : (List Int) × List Int) (b : Int) : Option ((((List Int) × List Int) × Int × Bool × Unit) × Unit) :=
 (S89 k a).bind fun q0 =>
 (bif decide ((q0.1.1.2.length : Int) > 0) then
  ix q0.1.1.2 0 <|
  sx q0.1.1.2 1 (q0.1.1.2.length : Int) <|
  some (((q0.1.1.1, sub q0.1.1.2 1 (q0.1.1.2.length : Int)), rd q0.1.1.2 0 0, true, ()), ())
 else
  (bif decide ((q0.1.1.1.length : Int) ≥ 4) then
   some ((q0.1.1, 0, false, ()), ())
  else
   ap q0.1.1.1 ([b] : List Int) 8 fun r1 =>
   some (((r1, q0.1.1.2), 0, true, ()), ())))
def F44 : Fn := ⟨[.val ⟨true, (.pair Y0_62 Y0_18), false⟩, .val ⟨false, (.int .i64), false⟩], [.val ⟨true, (.pair Y0_62 Y0_18), false⟩, .val ⟨false, (.int .i64), true⟩, .val ⟨false, .bool, true⟩], fun k x => S44 k x.1 x.2.1⟩
theorem ok44 : FnOK Tryz.prog 44 F44 := okF [(89, F89)] [] (fun k => .nil) ⟨ok89, trivial⟩ Tryz.func44 rfl
def S45 (k : Nat) (a b : Int) (c : List Y0_0) (e : List (PN Int 5)) (f h i : Bool) (l : List Y0_3) (m : List Int) (n : List Bool) (o : List Y0_4) (p : List Int) (s : List Bool) (t u v w : Int) (y z A : List Y0_7) (B C D G H : Int) (I : List (PN Int 6)) (J K M N O P Q : Int) : Option Y0_67 :=
 ap I ([(a, 12, 0, O, P, Q)] : List (PN Int 6)) 48 fun r0 =>
 some ((), (a, b, c, e, f, h, i, l, m, n, o, p, s, t, u, v, w, y, z, A, B, C, D, G, H, r0, J, K, M, N, ()), ())
def F45 : Fn := ⟨[.mbox 77 [cI, cI, .cell Y0_39, .cell (.sl 134 Y0_35), .cell .bool, .cell .bool, .cell .bool, .cell (.sl 103 Y0_2), .cell Y0_18, .cell Y0_57, .cell (.sl 95 Y0_5), .cell Y0_18, .cell Y0_57, cI, cI, cI, cI, .cell Y0_25, .cell Y0_25, .cell Y0_25, cI, cI, cI, cI, .cell (.int .u32), .own 58 Y0_65, cI, cI, cI, cI], .val ⟨false, (.int .i64), false⟩, .val ⟨false, (.int .i64), false⟩, .val ⟨false, (.int .i64), false⟩], [], fun k ((a, b, c, e, f, h, i, l, m, n, o, p, s, t, u, v, w, y, z, A, B, C, D, G, H, I, J, K, M, N, _), O, P, Q, _) => S45 k a b c e f h i l m n o p s t u v w y z A B C D G H I J K M N O P Q⟩
theorem ok45 : FnOK Tryz.prog 45 F45 := okF [] [] (fun k => .nil) trivial Tryz.func45 rfl
def S21 (k : Nat) (a b : Int) (c : List Y0_0) (e : List (PN Int 5)) (f h i : Bool) (l : List Y0_3) (m : List Int) (n : List Bool) (o : List Y0_4) (p : List Int) (s : List Bool) (t u v w : Int) (y z A : List Y0_7) (B C D G H : Int) (I : List (PN Int 6)) (J K M N : Int) : Option Y0_67 :=
 (S43 k a b c e f h i l m n o p s t u v w y z A B C D G H I J K M N 2).bind fun q0 =>
 (bif !q0.1.2.2.1 then
  some ((), q0.2.1, ())
 else
  (S44 k q0.1.2.1.2.2.2.1 q0.2.1.2.2.2.2.2.2.2.2.2.2.2.2.2.2.2.2.2.2.2.2.2.2.2.1).bind fun q1 =>
  (bif !q1.1.2.2.1 then
   some ((), (q0.2.1.1, q0.2.1.2.1, q0.2.1.2.2.1, q0.2.1.2.2.2.1, q0.2.1.2.2.2.2.1, q0.2.1.2.2.2.2.2.1, q0.2.1.2.2.2.2.2.2.1, q0.2.1.2.2.2.2.2.2.2.1, q0.2.1.2.2.2.2.2.2.2.2.1, q0.2.1.2.2.2.2.2.2.2.2.2.1, q0.2.1.2.2.2.2.2.2.2.2.2.2.1, q0.2.1.2.2.2.2.2.2.2.2.2.2.2.1, q0.2.1.2.2.2.2.2.2.2.2.2.2.2.2.1, q0.2.1.2.2.2.2.2.2.2.2.2.2.2.2.2.1, q0.2.1.2.2.2.2.2.2.2.2.2.2.2.2.2.2.1, q0.2.1.2.2.2.2.2.2.2.2.2.2.2.2.2.2.2.1, q0.2.1.2.2.2.2.2.2.2.2.2.2.2.2.2.2.2.2.1, q0.2.1.2.2.2.2.2.2.2.2.2.2.2.2.2.2.2.2.2.1, q0.2.1.2.2.2.2.2.2.2.2.2.2.2.2.2.2.2.2.2.2.1, q0.2.1.2.2.2.2.2.2.2.2.2.2.2.2.2.2.2.2.2.2.2.1, q0.2.1.2.2.2.2.2.2.2.2.2.2.2.2.2.2.2.2.2.2.2.2.1, q0.2.1.2.2.2.2.2.2.2.2.2.2.2.2.2.2.2.2.2.2.2.2.2.1, q0.2.1.2.2.2.2.2.2.2.2.2.2.2.2.2.2.2.2.2.2.2.2.2.2.1, q0.2.1.2.2.2.2.2.2.2.2.2.2.2.2.2.2.2.2.2.2.2.2.2.2.2.1, q0.2.1.2.2.2.2.2.2.2.2.2.2.2.2.2.2.2.2.2.2.2.2.2.2.2.2.1, q0.2.1.2.2.2.2.2.2.2.2.2.2.2.2.2.2.2.2.2.2.2.2.2.2.2.2.2.1, 4, q0.2.1.2.2.2.2.2.2.2.2.2.2.2.2.2.2.2.2.2.2.2.2.2.2.2.2.2.2.2.1, q0.2.1.2.2.2.2.2.2.2.2.2.2.2.2.2.2.2.2.2.2.2.2.2.2.2.2.2.2.2.2.1, q0.2.1.2.2.2.2.2.2.2.2.2.2.2.2.2.2.2.2.2.2.2.2.2.2.2.2.2.2.2.2.2.1, ()), ())
  else
   (bif decide (q1.1.2.1 > 0) then
    (S45 k q0.2.1.1 q0.2.1.2.1 q0.2.1.2.2.1 q0.2.1.2.2.2.1 q0.2.1.2.2.2.2.1 q0.2.1.2.2.2.2.2.1 q0.2.1.2.2.2.2.2.2.1 q0.2.1.2.2.2.2.2.2.2.1 q0.2.1.2.2.2.2.2.2.2.2.1 q0.2.1.2.2.2.2.2.2.2.2.2.1 q0.2.1.2.2.2.2.2.2.2.2.2.2.1 q0.2.1.2.2.2.2.2.2.2.2.2.2.2.1 q0.2.1.2.2.2.2.2.2.2.2.2.2.2.2.1 q0.2.1.2.2.2.2.2.2.2.2.2.2.2.2.2.1 q0.2.1.2.2.2.2.2.2.2.2.2.2.2.2.2.2.1 q0.2.1.2.2.2.2.2.2.2.2.2.2.2.2.2.2.2.1 q0.2.1.2.2.2.2.2.2.2.2.2.2.2.2.2.2.2.2.1 q0.2.1.2.2.2.2.2.2.2.2.2.2.2.2.2.2.2.2.2.1 q0.2.1.2.2.2.2.2.2.2.2.2.2.2.2.2.2.2.2.2.2.1 q0.2.1.2.2.2.2.2.2.2.2.2.2.2.2.2.2.2.2.2.2.2.1 q0.2.1.2.2.2.2.2.2.2.2.2.2.2.2.2.2.2.2.2.2.2.2.1 q0.2.1.2.2.2.2.2.2.2.2.2.2.2.2.2.2.2.2.2.2.2.2.2.1 q0.2.1.2.2.2.2.2.2.2.2.2.2.2.2.2.2.2.2.2.2.2.2.2.2.1 q0.2.1.2.2.2.2.2.2.2.2.2.2.2.2.2.2.2.2.2.2.2.2.2.2.2.1 q0.2.1.2.2.2.2.2.2.2.2.2.2.2.2.2.2.2.2.2.2.2.2.2.2.2.2.1 q0.2.1.2.2.2.2.2.2.2.2.2.2.2.2.2.2.2.2.2.2.2.2.2.2.2.2.2.1 q0.2.1.2.2.2.2.2.2.2.2.2.2.2.2.2.2.2.2.2.2.2.2.2.2.2.2.2.2.1 q0.2.1.2.2.2.2.2.2.2.2.2.2.2.2.2.2.2.2.2.2.2.2.2.2.2.2.2.2.2.1 q0.2.1.2.2.2.2.2.2.2.2.2.2.2.2.2.2.2.2.2.2.2.2.2.2.2.2.2.2.2.2.1 q0.2.1.2.2.2.2.2.2.2.2.2.2.2.2.2.2.2.2.2.2.2.2.2.2.2.2.2.2.2.2.2.1 q1.1.2.1 q0.2.1.2.2.2.2.2.2.2.2.2.2.2.2.2.2.2.2.2.2.2.2.2.2.2.1 0).bind fun q2 =>
    (S46 k ((q2.2.1.2.2.2.2.2.2.2.2.1, q2.2.1.2.2.2.2.2.2.2.2.2.1), q2.2.1.2.2.2.2.2.2.2.2.2.2.1) q0.1.1 (q0.1.2.1.1, q0.1.2.1.2.1, q0.1.2.1.2.2.1, q1.1.1, q0.1.2.1.2.2.2.2)).bind fun q3 =>
    some ((), (q2.2.1.1, q2.2.1.2.1, q2.2.1.2.2.1, q2.2.1.2.2.2.1, q2.2.1.2.2.2.2.1, q2.2.1.2.2.2.2.2.1, q2.2.1.2.2.2.2.2.2.1, q2.2.1.2.2.2.2.2.2.2.1, q3.1.1.1.1, q3.1.1.1.2, q3.1.1.2, q2.2.1.2.2.2.2.2.2.2.2.2.2.2.1, q2.2.1.2.2.2.2.2.2.2.2.2.2.2.2.1, q2.2.1.2.2.2.2.2.2.2.2.2.2.2.2.2.1, q2.2.1.2.2.2.2.2.2.2.2.2.2.2.2.2.2.1, q2.2.1.2.2.2.2.2.2.2.2.2.2.2.2.2.2.2.1, q2.2.1.2.2.2.2.2.2.2.2.2.2.2.2.2.2.2.2.1, q2.2.1.2.2.2.2.2.2.2.2.2.2.2.2.2.2.2.2.2.1, q2.2.1.2.2.2.2.2.2.2.2.2.2.2.2.2.2.2.2.2.2.1, q2.2.1.2.2.2.2.2.2.2.2.2.2.2.2.2.2.2.2.2.2.2.1, q2.2.1.2.2.2.2.2.2.2.2.2.2.2.2.2.2.2.2.2.2.2.2.1, q2.2.1.2.2.2.2.2.2.2.2.2.2.2.2.2.2.2.2.2.2.2.2.2.1, q2.2.1.2.2.2.2.2.2.2.2.2.2.2.2.2.2.2.2.2.2.2.2.2.2.1, q2.2.1.2.2.2.2.2.2.2.2.2.2.2.2.2.2.2.2.2.2.2.2.2.2.2.1, q2.2.1.2.2.2.2.2.2.2.2.2.2.2.2.2.2.2.2.2.2.2.2.2.2.2.2.1, q2.2.1.2.2.2.2.2.2.2.2.2.2.2.2.2.2.2.2.2.2.2.2.2.2.2.2.2.1, q2.2.1.2.2.2.2.2.2.2.2.2.2.2.2.2.2.2.2.2.2.2.2.2.2.2.2.2.2.1, q2.2.1.2.2.2.2.2.2.2.2.2.2.2.2.2.2.2.2.2.2.2.2.2.2.2.2.2.2.2.1, q2.2.1.2.2.2.2.2.2.2.2.2.2.2.2.2.2.2.2.2.2.2.2.2.2.2.2.2.2.2.2.1, q2.2.1.2.2.2.2.2.2.2.2.2.2.2.2.2.2.2.2.2.2.2.2.2.2.2.2.2.2.2.2.2.1, ()), ())
   else
    (S46 k ((q0.2.1.2.2.2.2.2.2.2.2.1, q0.2.1.2.2.2.2.2.2.2.2.2.1), q0.2.1.2.2.2.2.2.2.2.2.2.2.1) q0.1.1 (q0.1.2.1.1, q0.1.2.1.2.1, q0.1.2.1.2.2.1, q1.1.1, q0.1.2.1.2.2.2.2)).bind fun q4 =>
    some ((), (q0.2.1.1, q0.2.1.2.1, q0.2.1.2.2.1, q0.2.1.2.2.2.1, q0.2.1.2.2.2.2.1, q0.2.1.2.2.2.2.2.1, q0.2.1.2.2.2.2.2.2.1, q0.2.1.2.2.2.2.2.2.2.1, q4.1.1.1.1, q4.1.1.1.2, q4.1.1.2, q0.2.1.2.2.2.2.2.2.2.2.2.2.2.1, q0.2.1.2.2.2.2.2.2.2.2.2.2.2.2.1, q0.2.1.2.2.2.2.2.2.2.2.2.2.2.2.2.1, q0.2.1.2.2.2.2.2.2.2.2.2.2.2.2.2.2.1, q0.2.1.2.2.2.2.2.2.2.2.2.2.2.2.2.2.2.1, q0.2.1.2.2.2.2.2.2.2.2.2.2.2.2.2.2.2.2.1, q0.2.1.2.2.2.2.2.2.2.2.2.2.2.2.2.2.2.2.2.1, q0.2.1.2.2.2.2.2.2.2.2.2.2.2.2.2.2.2.2.2.2.1, q0.2.1.2.2.2.2.2.2.2.2.2.2.2.2.2.2.2.2.2.2.2.1, q0.2.1.2.2.2.2.2.2.2.2.2.2.2.2.2.2.2.2.2.2.2.2.1, q0.2.1.2.2.2.2.2.2.2.2.2.2.2.2.2.2.2.2.2.2.2.2.2.1, q0.2.1.2.2.2.2.2.2.2.2.2.2.2.2.2.2.2.2.2.2.2.2.2.2.1, q0.2.1.2.2.2.2.2.2.2.2.2.2.2.2.2.2.2.2.2.2.2.2.2.2.2.1, q0.2.1.2.2.2.2.2.2.2.2.2.2.2.2.2.2.2.2.2.2.2.2.2.2.2.2.1, q0.2.1.2.2.2.2.2.2.2.2.2.2.2.2.2.2.2.2.2.2.2.2.2.2.2.2.2.1, q0.2.1.2.2.2.2.2.2.2.2.2.2.2.2.2.2.2.2.2.2.2.2.2.2.2.2.2.2.1, q0.2.1.2.2.2.2.2.2.2.2.2.2.2.2.2.2.2.2.2.2.2.2.2.2.2.2.2.2.2.1, q0.2.1.2.2.2.2.2.2.2.2.2.2.2.2.2.2.2.2.2.2.2.2.2.2.2.2.2.2.2.2.1, q0.2.1.2.2.2.2.2.2.2.2.2.2.2.2.2.2.2.2.2.2.2.2.2.2.2.2.2.2.2.2.2.1, ()), ()))))
def F21 : Fn := ⟨[.mbox 77 [cI, cI, .cell Y0_39, .cell (.sl 134 Y0_35), .cell .bool, .cell .bool, .cell .bool, .cell (.sl 103 Y0_2), .cell Y0_18, .cell Y0_57, .cell (.sl 95 Y0_5), .cell Y0_18, .cell Y0_57, cI, cI, cI, cI, .cell Y0_25, .cell Y0_25, .cell Y0_25, cI, cI, cI, cI, .cell (.int .u32), .own 58 Y0_65, cI, cI, cI, cI]], [], fun k ((a, b, c, e, f, h, i, l, m, n, o, p, s, t, u, v, w, y, z, A, B, C, D, G, H, I, J, K, M, N, _), _) => S21 k a b c e f h i l m n o p s t u v w y z A B C D G H I J K M N⟩
theorem ok21 : FnOK Tryz.prog 21 F21 := okF [(43, F43), (44, F44), (45, F45), (46, F46)] [] (fun k => .nil) ⟨ok43, ok44, ok45, ok46, trivial⟩ Tryz.func21 rfl
end
end Go.Proofs.YtfbkmdemekjdgaaGreat.Ab
