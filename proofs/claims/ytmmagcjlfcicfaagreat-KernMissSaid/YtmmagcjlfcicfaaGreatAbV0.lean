import Derived.Test.YtmmagcjlfcicfaaGreatPbI
import Derived.Lib.Overlaps
import Derived.Shelf.RegionOpenPlain
import Derived.Test.YtmmagcjlfcicfaaGreatPbC
/- Contracts, printed by this session's own program gen.py. -/
set_option linter.unusedVariables false
set_option linter.unusedSimpArgs false
set_option maxRecDepth 100000
namespace Go.Proofs.YtmmagcjlfcicfaaGreat.Ab
open Go.RowKit
abbrev Y0_0 : Type := Int × Int × Int × Int
abbrev Y0_1 : Type := Int × Int × Int × Bool
abbrev Y0_2 : Ty := .sl 87 (.pair (.int .i64) (.pair (.int .i64) (.pair (.int .i64) (.int .i64))))
abbrev Y0_3 : Type := (List Y0_0) → (List Int) → (List Int) → (List Y0_1) → Int → Option (((List Int) × Bool × Unit) × Unit)
abbrev Y0_4 : Type := (Bool × Unit) × Unit
abbrev Y0_5 : Ty := .pair (.int .i64) (.pair (.int .i64) (.pair (.int .i64) .bool))
abbrev Y0_6 : Type := ((List Int) × Bool × Unit) × Unit
abbrev Y0_7 : Type := (List Y0_0) → (List Int) → (List Y0_1) → Int → Option (((List Int) × Unit) × Unit)
abbrev Y0_8 : Type := (List Y0_0) → (List Y0_1) → Int → Option Y0_4
abbrev Y0_9 : Type := (List Y0_0) → (List Y0_1) → (List Int) → Int → Option Y0_4
abbrev Y0_10 : Ty := .pair (.pair (.sl 3 (.int .i64)) (.sl 4 .bool)) (.sl 124 (.pair (.int .i64) (.pair (.pair (.int .i64) (.int .i64)) (.pair (.pair (.int .i64) (.int .i64)) (.pair (.pair (.sl 2 (.int .i64)) (.sl 3 (.int .i64))) (.pair (.pair (.int .u32) (.sl 297 (.pair (.int .i64) (.int .u32)))) (.int .u32)))))))
abbrev Y0_11 : Type := ((List Int) × Unit) × Unit
abbrev Y0_12 : Type := (List Y0_0) → (List Y0_1) → Int → Int → Option Y0_4
abbrev Y0_13 : Type := ((List Int) × List Bool) × List (Int × (Int × Int) × (Int × Int) × ((List Int) × List Int) × (Int × List (Int × Int)) × Int)
abbrev Y0_14 : Type := ((List Y0_1) × Unit) × Unit
abbrev Y0_15 : Ty := .pair (.int .i64) (.pair (arrT 8 (.int .i64)) (.pair (.sl 233 (.pair (.int .i64) (.pair (.int .i64) (.int .i64)))) .bool))
noncomputable abbrev P118 : List PT := [.val ⟨false, (.int .i64), false⟩]
noncomputable abbrev R118 : List RT := [.val ⟨true, (.pair (.sl 3 (.int .i64)) (.sl 4 .bool)), true⟩]
noncomputable def S118 (k : Nat) (n : Int) : Option ((((List Int) × List Bool) × Unit) × Unit) :=
 mk (mn (mx n 0) 64) (mn (mx n 0) 64) 8 <|
 mk (mn (mx n 0) 64) (mn (mx n 0) 64) 1 <|
 some (((List.replicate (mn (mx n 0) 64).toNat (0 : Int), List.replicate (mn (mx n 0) 64).toNat (false : Bool)), ()), ())
noncomputable def E118 : Env := tab.env (lk []) (hintL [])
theorem E118_ok : EnvOK Tryz.prog E118 := envOK_of tabOK _ _ (fun f F h => by cases h)
noncomputable def B118 (k : Nat) : Tbl (RD R118 × MD P118) := .nil
noncomputable def F118 : Fn := ⟨P118, R118, fun k x => S118 k x.1⟩
theorem ok118 : FnOK Tryz.prog 118 F118 := evalF_ok (E := E118) (T := B118) E118_ok mix Tryz.func118 rfl (by kernel_rfl) (by kernel_rfl) (fun k => by kernel_rfl) (fun k x => by kernel_rfl)
noncomputable abbrev P64 : List PT := []
noncomputable abbrev R64 : List RT := [.val ⟨true, Y0_10, true⟩]
noncomputable def S64 (k : Nat) : Option ((Y0_13 × Unit) × Unit) :=
 (S118 k 12).bind fun q0 =>
 mk 12 12 128 <|
 some (((q0.1.1, List.replicate 12 ((0, (0, 0), (0, 0), ([], []), (0, []), 0) : Int × (Int × Int) × (Int × Int) × ((List Int) × List Int) × (Int × List (Int × Int)) × Int)), ()), ())
noncomputable def E64 : Env := tab.env (lk [(118, F118)]) (hintL [])
theorem E64_ok : EnvOK Tryz.prog E64 := envOK_of tabOK _ _ (allFn_lk (l := [(118, F118)]) ⟨ok118, trivial⟩)
noncomputable def B64 (k : Nat) : Tbl (RD R64 × MD P64) := .nil
noncomputable def F64 : Fn := ⟨P64, R64, fun k x => S64 k ⟩
theorem ok64 : FnOK Tryz.prog 64 F64 := evalF_ok (E := E64) (T := B64) E64_ok mix Tryz.func64 rfl (by kernel_rfl) (by kernel_rfl) (fun k => by kernel_rfl) (fun k x => by kernel_rfl)
noncomputable abbrev P65 : List PT := [.val ⟨false, (.int .i64), false⟩]
noncomputable abbrev R65 : List RT := [.val ⟨true, (.pair (.sl 3 (.int .i64)) (.sl 4 .bool)), true⟩]
noncomputable def S65 (k : Nat) (n : Int) : Option ((((List Int) × List Bool) × Unit) × Unit) :=
 mk (mn (mx n 0) 65536) (mn (mx n 0) 65536) 8 <|
 mk (mn (mx n 0) 65536) (mn (mx n 0) 65536) 1 <|
 some (((List.replicate (mn (mx n 0) 65536).toNat (0 : Int), List.replicate (mn (mx n 0) 65536).toNat (false : Bool)), ()), ())
noncomputable def E65 : Env := tab.env (lk []) (hintL [])
theorem E65_ok : EnvOK Tryz.prog E65 := envOK_of tabOK _ _ (fun f F h => by cases h)
noncomputable def B65 (k : Nat) : Tbl (RD R65 × MD P65) := .nil
noncomputable def F65 : Fn := ⟨P65, R65, fun k x => S65 k x.1⟩
theorem ok65 : FnOK Tryz.prog 65 F65 := evalF_ok (E := E65) (T := B65) E65_ok mix Tryz.func65 rfl (by kernel_rfl) (by kernel_rfl) (fun k => by kernel_rfl) (fun k x => by kernel_rfl)
noncomputable abbrev P25 : List PT := [.val ⟨false, (.int .i64), false⟩]
noncomputable abbrev R25 : List RT := [.val ⟨true, (.pair (.int .i64) (.pair (.int .i64) (.pair (.sl 77 (.pair (.int .i64) (.pair (.int .i64) (.pair (.int .i64) (.pair Y0_2 (.pair Y0_2 Y0_2)))))) (.pair (.sl 96 (arrT 5 (.int .i64))) (.pair .bool (.pair .bool (.pair .bool (.pair (.sl 94 (.pair (.int .i64) (.pair (.int .i64) (.pair (.int .i64) (.pair (.int .i64) (.pair Y0_15 (.pair Y0_15 (.pair (.sl 3 (.int .i64)) .bool)))))))) (.pair Y0_10 (.pair (.sl 3 (.int .i64)) (.sl 4 .bool))))))))))), true⟩, .val ⟨false, .bool, true⟩]
noncomputable def S25 (k : Nat) (apart : Int) : Option (((Int × Int × (List (Int × Int × Int × (List Y0_0) × (List Y0_0) × List Y0_0)) × (List (PN Int 5)) × Bool × Bool × Bool × (List (Int × Int × Int × Int × (Int × (PN Int 8) × (List (Int × Int × Int)) × Bool) × (Int × (PN Int 8) × (List (Int × Int × Int)) × Bool) × (List Int) × Bool)) × Y0_13 × (List Int) × List Bool) × Bool × Unit) × Unit) :=
 (bif decide (apart < 1) then
  some (((0, 0, [], [], false, false, false, [], (([], []), []), [], []), false, ()), ())
 else
  (bif decide (apart > 4611686018427387904) then
   some (((0, 0, [], [], false, false, false, [], (([], []), []), [], []), false, ()), ())
  else
   (S64 k).bind fun q0 =>
   (S65 k 0).bind fun q1 =>
   some (((0, apart, [], [], false, false, false, [], q0.1.1, q1.1.1), true, ()), ())))
noncomputable def E25 : Env := tab.env (lk [(64, F64), (65, F65)]) (hintL [])
theorem E25_ok : EnvOK Tryz.prog E25 := envOK_of tabOK _ _ (allFn_lk (l := [(64, F64), (65, F65)]) ⟨ok64, ok65, trivial⟩)
noncomputable def B25 (k : Nat) : Tbl (RD R25 × MD P25) := .nil
noncomputable def F25 : Fn := ⟨P25, R25, fun k x => S25 k x.1⟩
theorem ok25 : FnOK Tryz.prog 25 F25 := evalF_ok (E := E25) (T := B25) E25_ok mix Tryz.func25 rfl (by kernel_rfl) (by kernel_rfl) (fun k => by kernel_rfl) (fun k x => by kernel_rfl)
noncomputable abbrev P177 : List PT := [.val ⟨true, (.int .i64), false⟩, .val ⟨false, (.int .i64), false⟩]
noncomputable abbrev R177 : List RT := [.val ⟨false, .bool, true⟩]
noncomputable def S177 (k : Nat) (f : Int) (a : Int) : Option Y0_4 :=
 (bif decide (a ≥ 0) then
  some ((decide (a < f), ()), ())
 else
  some ((false, ()), ()))
noncomputable def E177 : Env := tab.env (lk []) (hintL [])
theorem E177_ok : EnvOK Tryz.prog E177 := envOK_of tabOK _ _ (fun f F h => by cases h)
noncomputable def B177 (k : Nat) : Tbl (RD R177 × MD P177) := .nil
noncomputable def F177 : Fn := ⟨P177, R177, fun k x => S177 k x.1 x.2.1⟩
theorem ok177 : FnOK Tryz.prog 177 F177 := evalF_ok (E := E177) (T := B177) E177_ok mix Tryz.func177 rfl (by kernel_rfl) (by kernel_rfl) (fun k => by kernel_rfl) (fun k x => by kernel_rfl)
noncomputable abbrev P129 : List PT := [.val ⟨true, (.pair (.int .i64) (.pair (.int .i64) (.pair (.int .i64) (.int .i64)))), false⟩]
noncomputable abbrev R129 : List RT := [.val ⟨false, .bool, true⟩]
noncomputable def S129 (k : Nat) (i : Int × Int × Int × Int) : Option Y0_4 :=
 (bif i.1 == 0 then
  (bif i.2.1 == 0 then
   (bif i.2.2.1 == 0 then
    some ((i.2.2.2 == 0, ()), ())
   else
    some ((false, ()), ()))
  else
   some ((false, ()), ()))
 else
  (bif i.1 == 11 then
   (bif i.2.1 == 0 then
    (bif i.2.2.1 == 0 then
     some ((i.2.2.2 == 0, ()), ())
    else
     some ((false, ()), ()))
   else
    some ((false, ()), ()))
  else
   (bif i.1 == 1 then
    (S177 k 8 i.2.1).bind fun q0 =>
    (bif q0.1.1 then
     (bif i.2.2.1 == 0 then
      (bif decide (i.2.2.2 ≥ (-2147483648)) then
       some ((decide (i.2.2.2 < 2147483648), ()), ())
      else
       some ((false, ()), ()))
     else
      some ((false, ()), ()))
    else
     some ((false, ()), ()))
   else
    (bif i.1 == 2 then
     (S177 k 8 i.2.1).bind fun q1 =>
     (bif q1.1.1 then
      (S177 k 8 i.2.2.1).bind fun q2 =>
      (bif q2.1.1 then
       some ((i.2.2.2 == 0, ()), ())
      else
       some ((false, ()), ()))
     else
      some ((false, ()), ()))
    else
     (bif i.1 == 3 then
      (S177 k 8 i.2.1).bind fun q3 =>
      (bif q3.1.1 then
       (S177 k 8 i.2.2.1).bind fun q4 =>
       (bif q4.1.1 then
        some ((i.2.2.2 == 0, ()), ())
       else
        some ((false, ()), ()))
      else
       some ((false, ()), ()))
     else
      (bif i.1 == 4 then
       (S177 k 8 i.2.1).bind fun q5 =>
       (bif q5.1.1 then
        (S177 k 8 i.2.2.1).bind fun q6 =>
        (bif q6.1.1 then
         some ((i.2.2.2 == 0, ()), ())
        else
         some ((false, ()), ()))
       else
        some ((false, ()), ()))
      else
       (bif i.1 == 5 then
        (S177 k 8 i.2.1).bind fun q7 =>
        (bif q7.1.1 then
         (bif i.2.2.1 == 0 then
          (bif decide (i.2.2.2 ≥ (-63)) then
           some ((decide (i.2.2.2 ≤ 63), ()), ())
          else
           some ((false, ()), ()))
         else
          some ((false, ()), ()))
        else
         some ((false, ()), ()))
       else
        (bif i.1 == 6 then
         (S177 k 8 i.2.1).bind fun q8 =>
         (bif q8.1.1 then
          (bif i.2.2.1 == 0 then
           (bif decide (i.2.2.2 ≥ 1) then
            some ((decide (i.2.2.2 ≤ 64), ()), ())
           else
            some ((false, ()), ()))
          else
           some ((false, ()), ()))
         else
          some ((false, ()), ()))
        else
         (bif i.1 == 7 then
          (S177 k 8 i.2.1).bind fun q9 =>
          (bif q9.1.1 then
           (bif i.2.2.1 == 0 then
            (bif decide (i.2.2.2 ≥ 1) then
             some ((decide (i.2.2.2 ≤ 24), ()), ())
            else
             some ((false, ()), ()))
           else
            some ((false, ()), ()))
          else
           some ((false, ()), ()))
         else
          (bif i.1 == 8 then
           (bif i.2.1 == 0 then
            (bif decide (i.2.2.1 ≥ 1) then
             (bif decide (i.2.2.1 ≤ 24) then
              (bif decide (i.2.2.2 ≥ 1) then
               some ((decide (i.2.2.2 ≤ 20), ()), ())
              else
               some ((false, ()), ()))
             else
              some ((false, ()), ()))
            else
             some ((false, ()), ()))
           else
            some ((false, ()), ()))
          else
           (bif i.1 == 9 then
            (bif decide (i.2.1 ≥ 0) then
             (bif decide (i.2.1 < 4) then
              (bif i.2.2.1 == 0 then
               some ((i.2.2.2 == 0, ()), ())
              else
               some ((false, ()), ()))
             else
              some ((false, ()), ()))
            else
             some ((false, ()), ()))
           else
            (bif i.1 == 10 then
             (bif decide (i.2.1 ≥ 0) then
              (bif decide (i.2.1 < 4) then
               (bif i.2.2.1 == 0 then
                some ((i.2.2.2 == 0, ()), ())
               else
                some ((false, ()), ()))
              else
               some ((false, ()), ()))
             else
              some ((false, ()), ()))
            else
             some ((false, ()), ())))))))))))))
noncomputable def E129 : Env := tab.env (lk [(177, F177)]) (hintL [])
theorem E129_ok : EnvOK Tryz.prog E129 := envOK_of tabOK _ _ (allFn_lk (l := [(177, F177)]) ⟨ok177, trivial⟩)
noncomputable def B129 (k : Nat) : Tbl (RD R129 × MD P129) := .nil
noncomputable def F129 : Fn := ⟨P129, R129, fun k x => S129 k x.1⟩
theorem ok129 : FnOK Tryz.prog 129 F129 := evalF_ok (E := E129) (T := B129) E129_ok mix Tryz.func129 rfl (by kernel_rfl) (by kernel_rfl) (fun k => by kernel_rfl) (fun k x => by kernel_rfl)
noncomputable abbrev P174 : List PT := [.val ⟨false, Y0_2, false⟩]
noncomputable abbrev R174 : List RT := [.val ⟨false, (.sl 279 Y0_5), true⟩]
noncomputable abbrev c174_L3 : Cut := ⟨[0, 3, 4], [.cell Y0_2, .own 279 Y0_5, .cell (.int .i64)], [], 49, []⟩
noncomputable def l174_3 (k : Nat) (g3 : (List Y0_0) → (List Y0_1) → Int → Option Y0_14) (l_1 : List Y0_0) (out : List Y0_1) (i : Int) : Option Y0_14 :=
 (bif decide (i < (l_1.length : Int)) then
  ix l_1 i <|
  (bif (rd l_1 i (0, 0, 0, 0)).1 == 7 then
   ix l_1 i <|
   ap out ([(IntKind.i64.wrap (i + 1), IntKind.i64.wrap (i + (rd l_1 i (0, 0, 0, 0)).2.2.2), i, false)] : List Y0_1) 32 fun r0 =>
   g3 l_1 r0 (IntKind.i64.wrap (i + 1))
  else
   (bif (rd l_1 i (0, 0, 0, 0)).1 == 8 then
    ix l_1 i <|
    ap out ([(IntKind.i64.wrap (i + 1), IntKind.i64.wrap (i + (rd l_1 i (0, 0, 0, 0)).2.2.1), i, true)] : List Y0_1) 32 fun r1 =>
    g3 l_1 r1 (IntKind.i64.wrap (i + 1))
   else
    g3 l_1 out (IntKind.i64.wrap (i + 1))))
 else
  some ((out, ()), ()))
noncomputable def b174_3 (k : Nat) (g : ((Unit) × (List Y0_0) × (List Y0_1) × Int × Unit) → Option Y0_14) (d : (Unit) × (List Y0_0) × (List Y0_1) × Int × Unit) : Option Y0_14 := l174_3 k (fun l_1 out i => g ((), l_1, out, i, ())) d.2.1 d.2.2.1 d.2.2.2.1
noncomputable def L174_3 (k : Nat) (j : Nat) (l_1 : List Y0_0) (out : List Y0_1) (i : Int) : Option Y0_14 := iter (R := ((List Y0_1) × Unit) × Unit) c174_L3 (b174_3 k) j ((), l_1, out, i, ())
theorem L174_3_s (k : Nat) (j : Nat) (l_1 : List Y0_0) (out : List Y0_1) (i : Int) : L174_3 k (j + 1) l_1 out i = l174_3 k (L174_3 k j) l_1 out i := iter_succ _ _ _ _
noncomputable def S174 (k : Nat) (l_ : List Y0_0) : Option Y0_14 :=
 L174_3 k k l_ ([] : List Y0_1) 0
noncomputable def E174 : Env := tab.env (lk []) (hintL [(3, 2)])
theorem E174_ok : EnvOK Tryz.prog E174 := envOK_of tabOK _ _ (fun f F h => by cases h)
noncomputable def B174 (k : Nat) : Tbl (RD R174 × MD P174) := (.loop 3 c174_L3 (b174_3 k) (fun g => .nil) .nil)
noncomputable def F174 : Fn := ⟨P174, R174, fun k x => S174 k x.1⟩
theorem ok174 : FnOK Tryz.prog 174 F174 := evalF_ok (E := E174) (T := B174) E174_ok mix Tryz.func174 rfl (by kernel_rfl) (by kernel_rfl) (fun k => by kernel_rfl) (fun k x => by kernel_rfl)
noncomputable abbrev P175 : List PT := [.val ⟨true, Y0_5, false⟩, .val ⟨false, (.int .i64), false⟩]
noncomputable abbrev R175 : List RT := [.val ⟨false, .bool, true⟩]
noncomputable def S175 (k : Nat) (a : Int × Int × Int × Bool) (i : Int) : Option Y0_4 :=
 (bif decide (a.1 ≤ i) then
  some ((decide (i ≤ a.2.1), ()), ())
 else
  some ((false, ()), ()))
noncomputable def E175 : Env := tab.env (lk []) (hintL [])
theorem E175_ok : EnvOK Tryz.prog E175 := envOK_of tabOK _ _ (fun f F h => by cases h)
noncomputable def B175 (k : Nat) : Tbl (RD R175 × MD P175) := .nil
noncomputable def F175 : Fn := ⟨P175, R175, fun k x => S175 k x.1 x.2.1⟩
theorem ok175 : FnOK Tryz.prog 175 F175 := evalF_ok (E := E175) (T := B175) E175_ok mix Tryz.func175 rfl (by kernel_rfl) (by kernel_rfl) (fun k => by kernel_rfl) (fun k x => by kernel_rfl)
noncomputable abbrev P128 : List PT := [.val ⟨false, Y0_2, false⟩]
noncomputable abbrev R128 : List RT := [.val ⟨false, (.sl 3 (.int .i64)), true⟩, .val ⟨false, .bool, true⟩]
noncomputable abbrev c128_L10 : Cut := ⟨[0, 4, 5, 6, 7, 8], [.cell Y0_2, .own 3 (.int .i64), .own 3 (.int .i64), .own 279 Y0_5, .cell (.int .i64), .cell (.int .i64)], [], 117, []⟩
noncomputable def l128_10 (k : Nat) (g5 : Y0_3) (g10 : (List Y0_0) → (List Int) → (List Int) → (List Y0_1) → Int → Int → Option Y0_6) (l_2 : List Y0_0) (out1 : List Int) (open_1 : List Int) (a1 : List Y0_1) (i1 : Int) (k_ : Int) : Option Y0_6 :=
 (bif decide (k_ < (open_1.length : Int)) then
  ix open_1 k_ <|
  ix l_2 (rd open_1 k_ 0) <|
  ix l_2 i1 <|
  (bif (rd l_2 (rd open_1 k_ 0) (0, 0, 0, 0)).2.1 == (rd l_2 i1 (0, 0, 0, 0)).2.1 then
   some (([], false, ()), ())
  else
   g10 l_2 out1 open_1 a1 i1 (IntKind.i64.wrap (k_ + 1)))
 else
  ap open_1 ([i1] : List Int) 8 fun r1 =>
  (bif decide ((r1.length : Int) > 2) then
   some (([], false, ()), ())
  else
   g5 l_2 out1 r1 a1 (IntKind.i64.wrap (i1 + 1))))
noncomputable def b128_10 (k : Nat) (g5 : Y0_3) (g : ((Unit) × (List Y0_0) × (List Int) × (List Int) × (List Y0_1) × Int × Int × Unit) → Option Y0_6) (d : (Unit) × (List Y0_0) × (List Int) × (List Int) × (List Y0_1) × Int × Int × Unit) : Option Y0_6 := l128_10 k g5 (fun l_2 out1 open_1 a1 i1 k_ => g ((), l_2, out1, open_1, a1, i1, k_, ())) d.2.1 d.2.2.1 d.2.2.2.1 d.2.2.2.2.1 d.2.2.2.2.2.1 d.2.2.2.2.2.2.1
noncomputable def L128_10 (k : Nat) (g5 : Y0_3) (j : Nat) (l_2 : List Y0_0) (out1 : List Int) (open_1 : List Int) (a1 : List Y0_1) (i1 : Int) (k_ : Int) : Option Y0_6 := iter (R := ((List Int) × Bool × Unit) × Unit) c128_L10 (b128_10 k g5) j ((), l_2, out1, open_1, a1, i1, k_, ())
theorem L128_10_s (k : Nat) (g5 : Y0_3) (j : Nat) (l_2 : List Y0_0) (out1 : List Int) (open_1 : List Int) (a1 : List Y0_1) (i1 : Int) (k_ : Int) : L128_10 k g5 (j + 1) l_2 out1 open_1 a1 i1 k_ = l128_10 k g5 (L128_10 k g5 j) l_2 out1 open_1 a1 i1 k_ := iter_succ _ _ _ _
noncomputable abbrev c128_L23 : Cut := ⟨[0, 4, 5, 6, 7, 9, 10], [.cell Y0_2, .own 3 (.int .i64), .own 3 (.int .i64), .own 279 Y0_5, .cell (.int .i64), .cell (.int .i64), .cell (.int .i64)], [], 117, []⟩
noncomputable def l128_23 (k : Nat) (g5 : Y0_3) (g23 : (List Y0_0) → (List Int) → (List Int) → (List Y0_1) → Int → Int → Int → Option Y0_6) (l_3 : List Y0_0) (out2 : List Int) (open_2 : List Int) (a2 : List Y0_1) (i2 : Int) (k_1 : Int) (n : Int) : Option Y0_6 :=
 (bif decide (n < (a2.length : Int)) then
  ix a2 n <|
  (S175 k (rd a2 n (0, 0, 0, false)) k_1).bind fun q2 =>
  ix a2 n <|
  (S175 k (rd a2 n (0, 0, 0, false)) i2).bind fun q3 =>
  (bif !(q2.1.1 == q3.1.1) then
   some (([], false, ()), ())
  else
   g23 l_3 out2 open_2 a2 i2 k_1 (IntKind.i64.wrap (n + 1)))
 else
  ix out2 k_1 <|
  g5 l_3 (upd out2 k_1 i2) open_2 a2 (IntKind.i64.wrap (i2 + 1)))
noncomputable def b128_23 (k : Nat) (g5 : Y0_3) (g : ((Unit) × (List Y0_0) × (List Int) × (List Int) × (List Y0_1) × Int × Int × Int × Unit) → Option Y0_6) (d : (Unit) × (List Y0_0) × (List Int) × (List Int) × (List Y0_1) × Int × Int × Int × Unit) : Option Y0_6 := l128_23 k g5 (fun l_3 out2 open_2 a2 i2 k_1 n => g ((), l_3, out2, open_2, a2, i2, k_1, n, ())) d.2.1 d.2.2.1 d.2.2.2.1 d.2.2.2.2.1 d.2.2.2.2.2.1 d.2.2.2.2.2.2.1 d.2.2.2.2.2.2.2.1
noncomputable def L128_23 (k : Nat) (g5 : Y0_3) (j : Nat) (l_3 : List Y0_0) (out2 : List Int) (open_2 : List Int) (a2 : List Y0_1) (i2 : Int) (k_1 : Int) (n : Int) : Option Y0_6 := iter (R := ((List Int) × Bool × Unit) × Unit) c128_L23 (b128_23 k g5) j ((), l_3, out2, open_2, a2, i2, k_1, n, ())
theorem L128_23_s (k : Nat) (g5 : Y0_3) (j : Nat) (l_3 : List Y0_0) (out2 : List Int) (open_2 : List Int) (a2 : List Y0_1) (i2 : Int) (k_1 : Int) (n : Int) : L128_23 k g5 (j + 1) l_3 out2 open_2 a2 i2 k_1 n = l128_23 k g5 (L128_23 k g5 j) l_3 out2 open_2 a2 i2 k_1 n := iter_succ _ _ _ _
noncomputable abbrev c128_L5 : Cut := ⟨[0, 4, 5, 6, 7], [.cell Y0_2, .own 3 (.int .i64), .own 3 (.int .i64), .own 279 Y0_5, .cell (.int .i64)], [], 117, []⟩
noncomputable def l128_5 (k : Nat) (g5 : Y0_3) (l_1 : List Y0_0) (out : List Int) (open_ : List Int) (a : List Y0_1) (i : Int) : Option Y0_6 :=
 (bif decide (i < (l_1.length : Int)) then
  ix l_1 i <|
  (bif (rd l_1 i (0, 0, 0, 0)).1 == 9 then
   L128_10 k g5 k l_1 out open_ a i 0
  else
   (bif (rd l_1 i (0, 0, 0, 0)).1 == 10 then
    (bif (open_.length : Int) == 0 then
     some (([], false, ()), ())
    else
     ix open_ (IntKind.i64.wrap ((open_.length : Int) - 1)) <|
     ix l_1 (rd open_ (IntKind.i64.wrap ((open_.length : Int) - 1)) 0) <|
     ix l_1 i <|
     (bif (rd l_1 (rd open_ (IntKind.i64.wrap ((open_.length : Int) - 1)) 0) (0, 0, 0, 0)).2.1 != (rd l_1 i (0, 0, 0, 0)).2.1 then
      some (([], false, ()), ())
     else
      ix open_ (IntKind.i64.wrap ((open_.length : Int) - 1)) <|
      sx open_ 0 (IntKind.i64.wrap ((open_.length : Int) - 1)) <|
      L128_23 k g5 k l_1 out (open_.take (IntKind.i64.wrap ((open_.length : Int) - 1)).toNat) a i (rd open_ (IntKind.i64.wrap ((open_.length : Int) - 1)) 0) 0))
   else
    g5 l_1 out open_ a (IntKind.i64.wrap (i + 1))))
 else
  (bif decide ((open_.length : Int) > 0) then
   some (([], false, ()), ())
  else
   some ((out, true, ()), ())))
noncomputable def b128_5 (k : Nat) (g : ((Unit) × (List Y0_0) × (List Int) × (List Int) × (List Y0_1) × Int × Unit) → Option Y0_6) (d : (Unit) × (List Y0_0) × (List Int) × (List Int) × (List Y0_1) × Int × Unit) : Option Y0_6 := l128_5 k (fun l_1 out open_ a i => g ((), l_1, out, open_, a, i, ())) d.2.1 d.2.2.1 d.2.2.2.1 d.2.2.2.2.1 d.2.2.2.2.2.1
noncomputable def L128_5 (k : Nat) (j : Nat) (l_1 : List Y0_0) (out : List Int) (open_ : List Int) (a : List Y0_1) (i : Int) : Option Y0_6 := iter (R := ((List Int) × Bool × Unit) × Unit) c128_L5 (b128_5 k) j ((), l_1, out, open_, a, i, ())
theorem L128_5_s (k : Nat) (j : Nat) (l_1 : List Y0_0) (out : List Int) (open_ : List Int) (a : List Y0_1) (i : Int) : L128_5 k (j + 1) l_1 out open_ a i = l128_5 k (L128_5 k j) l_1 out open_ a i := iter_succ _ _ _ _
noncomputable def S128 (k : Nat) (l_ : List Y0_0) : Option Y0_6 :=
 mk (l_.length : Int) (l_.length : Int) 8 <|
 (S174 k l_).bind fun q0 =>
 L128_5 k k l_ (List.replicate (l_.length : Int).toNat (0 : Int)) ([] : List Int) q0.1.1 0
noncomputable def E128 : Env := tab.env (lk [(174, F174), (175, F175)]) (hintL [(5, 2), (89, 1)])
theorem E128_ok : EnvOK Tryz.prog E128 := envOK_of tabOK _ _ (allFn_lk (l := [(174, F174), (175, F175)]) ⟨ok174, ok175, trivial⟩)
noncomputable def B128 (k : Nat) : Tbl (RD R128 × MD P128) := (.loop 5 c128_L5 (b128_5 k) (fun g => (fun (g5 : Y0_3) => (.loop 10 c128_L10 (b128_10 k g5) (fun g => .nil) (.loop 23 c128_L23 (b128_23 k g5) (fun g => .nil) .nil))) (fun l_1 out open_ a i => g ((), l_1, out, open_, a, i, ()))) .nil)
noncomputable def F128 : Fn := ⟨P128, R128, fun k x => S128 k x.1⟩
theorem ok128 : FnOK Tryz.prog 128 F128 := evalF_ok (E := E128) (T := B128) E128_ok mix Tryz.func128 rfl (by kernel_rfl) (by kernel_rfl) (fun k => by kernel_rfl) (fun k x => by kernel_rfl)
noncomputable abbrev P176 : List PT := [.val ⟨false, Y0_2, false⟩, .val ⟨false, (.sl 3 (.int .i64)), false⟩, .val ⟨false, (.int .i64), false⟩]
noncomputable abbrev R176 : List RT := [.val ⟨false, (.int .i64), true⟩]
noncomputable abbrev c176_L3 : Cut := ⟨[0, 1, 2, 7, 8], [.cell Y0_2, .cell (.sl 3 (.int .i64)), .cell (.int .i64), .cell (.int .i64), .cell (.int .i64)], [], 37, []⟩
noncomputable def l176_3 (k : Nat) (g3 : (List Y0_0) → (List Int) → Int → Int → Int → Option ((Int × Unit) × Unit)) (l_1 : List Y0_0) (pairs1 : List Int) (i1 : Int) (n : Int) (k_ : Int) : Option ((Int × Unit) × Unit) :=
 (bif decide (k_ < (l_1.length : Int)) then
  ix l_1 k_ <|
  (bif (rd l_1 k_ (0, 0, 0, 0)).1 == 9 then
   (bif decide (k_ < i1) then
    ix pairs1 k_ <|
    (bif decide (i1 < (rd pairs1 k_ 0)) then
     g3 l_1 pairs1 i1 (IntKind.i64.wrap (n + 1)) (IntKind.i64.wrap (k_ + 1))
    else
     g3 l_1 pairs1 i1 n (IntKind.i64.wrap (k_ + 1)))
   else
    g3 l_1 pairs1 i1 n (IntKind.i64.wrap (k_ + 1)))
  else
   g3 l_1 pairs1 i1 n (IntKind.i64.wrap (k_ + 1)))
 else
  some ((n, ()), ()))
noncomputable def b176_3 (k : Nat) (g : ((Unit) × (List Y0_0) × (List Int) × Int × Int × Int × Unit) → Option ((Int × Unit) × Unit)) (d : (Unit) × (List Y0_0) × (List Int) × Int × Int × Int × Unit) : Option ((Int × Unit) × Unit) := l176_3 k (fun l_1 pairs1 i1 n k_ => g ((), l_1, pairs1, i1, n, k_, ())) d.2.1 d.2.2.1 d.2.2.2.1 d.2.2.2.2.1 d.2.2.2.2.2.1
noncomputable def L176_3 (k : Nat) (j : Nat) (l_1 : List Y0_0) (pairs1 : List Int) (i1 : Int) (n : Int) (k_ : Int) : Option ((Int × Unit) × Unit) := iter (R := (Int × Unit) × Unit) c176_L3 (b176_3 k) j ((), l_1, pairs1, i1, n, k_, ())
theorem L176_3_s (k : Nat) (j : Nat) (l_1 : List Y0_0) (pairs1 : List Int) (i1 : Int) (n : Int) (k_ : Int) : L176_3 k (j + 1) l_1 pairs1 i1 n k_ = l176_3 k (L176_3 k j) l_1 pairs1 i1 n k_ := iter_succ _ _ _ _
noncomputable def S176 (k : Nat) (l_ : List Y0_0) (pairs : List Int) (i : Int) : Option ((Int × Unit) × Unit) :=
 L176_3 k k l_ pairs i 0 0
noncomputable def E176 : Env := tab.env (lk []) (hintL [])
theorem E176_ok : EnvOK Tryz.prog E176 := envOK_of tabOK _ _ (fun f F h => by cases h)
noncomputable def B176 (k : Nat) : Tbl (RD R176 × MD P176) := (.loop 3 c176_L3 (b176_3 k) (fun g => .nil) .nil)
noncomputable def F176 : Fn := ⟨P176, R176, fun k x => S176 k x.1 x.2.1 x.2.2.1⟩
theorem ok176 : FnOK Tryz.prog 176 F176 := evalF_ok (E := E176) (T := B176) E176_ok mix Tryz.func176 rfl (by kernel_rfl) (by kernel_rfl) (fun k => by kernel_rfl) (fun k x => by kernel_rfl)
noncomputable abbrev P126 : List PT := [.val ⟨false, Y0_2, false⟩]
noncomputable abbrev R126 : List RT := [.val ⟨false, .bool, true⟩]
noncomputable abbrev c126_J20 : Cut := ⟨[0, 4, 5, 6, 7, 8], [.cell Y0_2, .own 279 Y0_5, .cell (.int .i64), .cell (.int .i64), .cell .bool, .cell .bool], [], 235, []⟩
noncomputable def j126_20 (k : Nat) (g10 : Y0_8) (g15 : Y0_12) (l_5 : List Y0_0) (a3 : List Y0_1) (i4 : Int) (k_2 : Int) (apart1 : Bool) (in_ : Bool) : Option Y0_4 :=
 (bif !apart1 then
  (bif !in_ then
   some ((false, ()), ())
  else
   ix a3 i4 <|
   ix a3 k_2 <|
   (S175 k (rd a3 i4 (0, 0, 0, false)) (rd a3 k_2 (0, 0, 0, false)).2.2.1).bind fun q2 =>
   (bif q2.1.1 then
    ix a3 k_2 <|
    ix a3 i4 <|
    (bif decide ((rd a3 k_2 (0, 0, 0, false)).2.1 > (rd a3 i4 (0, 0, 0, false)).2.1) then
     some ((false, ()), ())
    else
     g15 l_5 a3 i4 (IntKind.i64.wrap (k_2 + 1)))
   else
    g15 l_5 a3 i4 (IntKind.i64.wrap (k_2 + 1))))
 else
  ix a3 i4 <|
  ix a3 k_2 <|
  (S175 k (rd a3 i4 (0, 0, 0, false)) (rd a3 k_2 (0, 0, 0, false)).2.2.1).bind fun q3 =>
  (bif q3.1.1 then
   ix a3 k_2 <|
   ix a3 i4 <|
   (bif decide ((rd a3 k_2 (0, 0, 0, false)).2.1 > (rd a3 i4 (0, 0, 0, false)).2.1) then
    some ((false, ()), ())
   else
    g15 l_5 a3 i4 (IntKind.i64.wrap (k_2 + 1)))
  else
   g15 l_5 a3 i4 (IntKind.i64.wrap (k_2 + 1))))
noncomputable abbrev c126_J19 : Cut := ⟨[0, 4, 5, 6, 7], [.cell Y0_2, .own 279 Y0_5, .cell (.int .i64), .cell (.int .i64), .cell .bool], [], 235, []⟩
noncomputable def j126_19 (k : Nat) (g10 : Y0_8) (g15 : Y0_12) (l_4 : List Y0_0) (a2 : List Y0_1) (i3 : Int) (k_1 : Int) (apart : Bool) : Option Y0_4 :=
 ix a2 i3 <|
 ix a2 k_1 <|
 (bif decide ((rd a2 i3 (0, 0, 0, false)).1 ≤ (rd a2 k_1 (0, 0, 0, false)).1) then
  ix a2 k_1 <|
  ix a2 i3 <|
  (bif decide ((rd a2 k_1 (0, 0, 0, false)).2.1 ≤ (rd a2 i3 (0, 0, 0, false)).2.1) then
   j126_20 k g10 g15 l_4 a2 i3 k_1 apart true
  else
   ix a2 k_1 <|
   ix a2 i3 <|
   (bif decide ((rd a2 k_1 (0, 0, 0, false)).1 ≤ (rd a2 i3 (0, 0, 0, false)).1) then
    ix a2 i3 <|
    ix a2 k_1 <|
    j126_20 k g10 g15 l_4 a2 i3 k_1 apart (decide ((rd a2 i3 (0, 0, 0, false)).2.1 ≤ (rd a2 k_1 (0, 0, 0, false)).2.1))
   else
    j126_20 k g10 g15 l_4 a2 i3 k_1 apart false))
 else
  ix a2 k_1 <|
  ix a2 i3 <|
  (bif decide ((rd a2 k_1 (0, 0, 0, false)).1 ≤ (rd a2 i3 (0, 0, 0, false)).1) then
   ix a2 i3 <|
   ix a2 k_1 <|
   j126_20 k g10 g15 l_4 a2 i3 k_1 apart (decide ((rd a2 i3 (0, 0, 0, false)).2.1 ≤ (rd a2 k_1 (0, 0, 0, false)).2.1))
  else
   j126_20 k g10 g15 l_4 a2 i3 k_1 apart false))
noncomputable abbrev c126_L15 : Cut := ⟨[0, 4, 5, 6], [.cell Y0_2, .own 279 Y0_5, .cell (.int .i64), .cell (.int .i64)], [], 235, []⟩
noncomputable def l126_15 (k : Nat) (g10 : Y0_8) (g15 : Y0_12) (l_3 : List Y0_0) (a1 : List Y0_1) (i2 : Int) (k_ : Int) : Option Y0_4 :=
 (bif decide (k_ < (a1.length : Int)) then
  (bif i2 == k_ then
   g15 l_3 a1 i2 (IntKind.i64.wrap (k_ + 1))
  else
   ix a1 i2 <|
   ix a1 k_ <|
   (bif decide ((rd a1 i2 (0, 0, 0, false)).2.1 < (rd a1 k_ (0, 0, 0, false)).1) then
    j126_19 k g10 g15 l_3 a1 i2 k_ true
   else
    ix a1 k_ <|
    ix a1 i2 <|
    j126_19 k g10 g15 l_3 a1 i2 k_ (decide ((rd a1 k_ (0, 0, 0, false)).2.1 < (rd a1 i2 (0, 0, 0, false)).1))))
 else
  g10 l_3 a1 (IntKind.i64.wrap (i2 + 1)))
noncomputable def b126_15 (k : Nat) (g10 : Y0_8) (g : ((Unit) × (List Y0_0) × (List Y0_1) × Int × Int × Unit) → Option Y0_4) (d : (Unit) × (List Y0_0) × (List Y0_1) × Int × Int × Unit) : Option Y0_4 := l126_15 k g10 (fun l_3 a1 i2 k_ => g ((), l_3, a1, i2, k_, ())) d.2.1 d.2.2.1 d.2.2.2.1 d.2.2.2.2.1
noncomputable def L126_15 (k : Nat) (g10 : Y0_8) (j : Nat) (l_3 : List Y0_0) (a1 : List Y0_1) (i2 : Int) (k_ : Int) : Option Y0_4 := iter (R := (Bool × Unit) × Unit) c126_L15 (b126_15 k g10) j ((), l_3, a1, i2, k_, ())
theorem L126_15_s (k : Nat) (g10 : Y0_8) (j : Nat) (l_3 : List Y0_0) (a1 : List Y0_1) (i2 : Int) (k_ : Int) : L126_15 k g10 (j + 1) l_3 a1 i2 k_ = l126_15 k g10 (L126_15 k g10 j) l_3 a1 i2 k_ := iter_succ _ _ _ _
noncomputable abbrev c126_L30 : Cut := ⟨[0, 4, 9, 11, 12, 13, 14], [.cell Y0_2, .own 279 Y0_5, .own 3 (.int .i64), .cell (.int .i64), .cell (.int .i64), .cell (.int .i64), .cell (.int .i64)], [], 235, []⟩
noncomputable def l126_30 (k : Nat) (g26 : Y0_9) (g30 : (List Y0_0) → (List Y0_1) → (List Int) → Int → Int → Int → Int → Option Y0_4) (l_7 : List Y0_0) (a5 : List Y0_1) (pairs1 : List Int) (i6 : Int) (bodies : Int) (all : Int) (k_3 : Int) : Option Y0_4 :=
 (bif decide (k_3 < (a5.length : Int)) then
  ix a5 k_3 <|
  (S175 k (rd a5 k_3 (0, 0, 0, false)) i6).bind fun q5 =>
  (bif q5.1.1 then
   ix a5 k_3 <|
   (bif (rd a5 k_3 (0, 0, 0, false)).2.2.2 then
    g30 l_7 a5 pairs1 i6 (IntKind.i64.wrap (bodies + 1)) (IntKind.i64.wrap (all + 1)) (IntKind.i64.wrap (k_3 + 1))
   else
    g30 l_7 a5 pairs1 i6 bodies (IntKind.i64.wrap (all + 1)) (IntKind.i64.wrap (k_3 + 1)))
  else
   g30 l_7 a5 pairs1 i6 bodies all (IntKind.i64.wrap (k_3 + 1)))
 else
  (bif decide (bodies > 2) then
   some ((false, ()), ())
  else
   ix l_7 i6 <|
   (bif (rd l_7 i6 (0, 0, 0, 0)).1 == 11 then
    (bif decide (all > 0) then
     some ((false, ()), ())
    else
     (S176 k l_7 pairs1 i6).bind fun q6 =>
     (bif decide (q6.1.1 > 0) then
      some ((false, ()), ())
     else
      g26 l_7 a5 pairs1 (IntKind.i64.wrap (i6 + 1))))
   else
    g26 l_7 a5 pairs1 (IntKind.i64.wrap (i6 + 1)))))
noncomputable def b126_30 (k : Nat) (g26 : Y0_9) (g : ((Unit) × (List Y0_0) × (List Y0_1) × (List Int) × Int × Int × Int × Int × Unit) → Option Y0_4) (d : (Unit) × (List Y0_0) × (List Y0_1) × (List Int) × Int × Int × Int × Int × Unit) : Option Y0_4 := l126_30 k g26 (fun l_7 a5 pairs1 i6 bodies all k_3 => g ((), l_7, a5, pairs1, i6, bodies, all, k_3, ())) d.2.1 d.2.2.1 d.2.2.2.1 d.2.2.2.2.1 d.2.2.2.2.2.1 d.2.2.2.2.2.2.1 d.2.2.2.2.2.2.2.1
noncomputable def L126_30 (k : Nat) (g26 : Y0_9) (j : Nat) (l_7 : List Y0_0) (a5 : List Y0_1) (pairs1 : List Int) (i6 : Int) (bodies : Int) (all : Int) (k_3 : Int) : Option Y0_4 := iter (R := (Bool × Unit) × Unit) c126_L30 (b126_30 k g26) j ((), l_7, a5, pairs1, i6, bodies, all, k_3, ())
theorem L126_30_s (k : Nat) (g26 : Y0_9) (j : Nat) (l_7 : List Y0_0) (a5 : List Y0_1) (pairs1 : List Int) (i6 : Int) (bodies : Int) (all : Int) (k_3 : Int) : L126_30 k g26 (j + 1) l_7 a5 pairs1 i6 bodies all k_3 = l126_30 k g26 (L126_30 k g26 j) l_7 a5 pairs1 i6 bodies all k_3 := iter_succ _ _ _ _
noncomputable abbrev c126_L26 : Cut := ⟨[0, 4, 9, 11], [.cell Y0_2, .own 279 Y0_5, .own 3 (.int .i64), .cell (.int .i64)], [], 235, []⟩
noncomputable def l126_26 (k : Nat) (g26 : Y0_9) (l_6 : List Y0_0) (a4 : List Y0_1) (pairs : List Int) (i5 : Int) : Option Y0_4 :=
 (bif decide (i5 < (l_6.length : Int)) then
  L126_30 k g26 k l_6 a4 pairs i5 0 0 0
 else
  some ((true, ()), ()))
noncomputable def b126_26 (k : Nat) (g : ((Unit) × (List Y0_0) × (List Y0_1) × (List Int) × Int × Unit) → Option Y0_4) (d : (Unit) × (List Y0_0) × (List Y0_1) × (List Int) × Int × Unit) : Option Y0_4 := l126_26 k (fun l_6 a4 pairs i5 => g ((), l_6, a4, pairs, i5, ())) d.2.1 d.2.2.1 d.2.2.2.1 d.2.2.2.2.1
noncomputable def L126_26 (k : Nat) (j : Nat) (l_6 : List Y0_0) (a4 : List Y0_1) (pairs : List Int) (i5 : Int) : Option Y0_4 := iter (R := (Bool × Unit) × Unit) c126_L26 (b126_26 k) j ((), l_6, a4, pairs, i5, ())
theorem L126_26_s (k : Nat) (j : Nat) (l_6 : List Y0_0) (a4 : List Y0_1) (pairs : List Int) (i5 : Int) : L126_26 k (j + 1) l_6 a4 pairs i5 = l126_26 k (L126_26 k j) l_6 a4 pairs i5 := iter_succ _ _ _ _
noncomputable abbrev c126_L10 : Cut := ⟨[0, 4, 5], [.cell Y0_2, .own 279 Y0_5, .cell (.int .i64)], [], 235, []⟩
noncomputable def l126_10 (k : Nat) (g10 : Y0_8) (l_2 : List Y0_0) (a : List Y0_1) (i1 : Int) : Option Y0_4 :=
 (bif decide (i1 < (a.length : Int)) then
  ix a i1 <|
  (bif decide ((rd a i1 (0, 0, 0, false)).2.1 ≥ (IntKind.i64.wrap ((l_2.length : Int) - 1))) then
   some ((false, ()), ())
  else
   L126_15 k g10 k l_2 a i1 0)
 else
  (S128 k l_2).bind fun q4 =>
  (bif !q4.1.2.1 then
   some ((false, ()), ())
  else
   L126_26 k k l_2 a q4.1.1 0))
noncomputable def b126_10 (k : Nat) (g : ((Unit) × (List Y0_0) × (List Y0_1) × Int × Unit) → Option Y0_4) (d : (Unit) × (List Y0_0) × (List Y0_1) × Int × Unit) : Option Y0_4 := l126_10 k (fun l_2 a i1 => g ((), l_2, a, i1, ())) d.2.1 d.2.2.1 d.2.2.2.1
noncomputable def L126_10 (k : Nat) (j : Nat) (l_2 : List Y0_0) (a : List Y0_1) (i1 : Int) : Option Y0_4 := iter (R := (Bool × Unit) × Unit) c126_L10 (b126_10 k) j ((), l_2, a, i1, ())
theorem L126_10_s (k : Nat) (j : Nat) (l_2 : List Y0_0) (a : List Y0_1) (i1 : Int) : L126_10 k (j + 1) l_2 a i1 = l126_10 k (L126_10 k j) l_2 a i1 := iter_succ _ _ _ _
noncomputable abbrev c126_L4 : Cut := ⟨[0, 3], [.cell Y0_2, .cell (.int .i64)], [], 235, []⟩
noncomputable def l126_4 (k : Nat) (g4 : (List Y0_0) → Int → Option Y0_4) (l_1 : List Y0_0) (i : Int) : Option Y0_4 :=
 (bif decide (i < (l_1.length : Int)) then
  ix l_1 i <|
  (S129 k (rd l_1 i (0, 0, 0, 0))).bind fun q0 =>
  (bif !q0.1.1 then
   some ((false, ()), ())
  else
   ix l_1 i <|
   (bif !(((rd l_1 i (0, 0, 0, 0)).1 == 0) == (i == (IntKind.i64.wrap ((l_1.length : Int) - 1)))) then
    some ((false, ()), ())
   else
    g4 l_1 (IntKind.i64.wrap (i + 1))))
 else
  (S174 k l_1).bind fun q1 =>
  L126_10 k k l_1 q1.1.1 0)
noncomputable def b126_4 (k : Nat) (g : ((Unit) × (List Y0_0) × Int × Unit) → Option Y0_4) (d : (Unit) × (List Y0_0) × Int × Unit) : Option Y0_4 := l126_4 k (fun l_1 i => g ((), l_1, i, ())) d.2.1 d.2.2.1
noncomputable def L126_4 (k : Nat) (j : Nat) (l_1 : List Y0_0) (i : Int) : Option Y0_4 := iter (R := (Bool × Unit) × Unit) c126_L4 (b126_4 k) j ((), l_1, i, ())
theorem L126_4_s (k : Nat) (j : Nat) (l_1 : List Y0_0) (i : Int) : L126_4 k (j + 1) l_1 i = l126_4 k (L126_4 k j) l_1 i := iter_succ _ _ _ _
noncomputable def S126 (k : Nat) (l_ : List Y0_0) : Option Y0_4 :=
 (bif decide ((l_.length : Int) < 1) then
  some ((false, ()), ())
 else
  (bif decide ((l_.length : Int) > 24) then
   some ((false, ()), ())
  else
   L126_4 k k l_ 0))
noncomputable def E126 : Env := tab.env (lk [(128, F128), (129, F129), (174, F174), (175, F175), (176, F176)]) (hintL [])
theorem E126_ok : EnvOK Tryz.prog E126 := envOK_of tabOK _ _ (allFn_lk (l := [(128, F128), (129, F129), (174, F174), (175, F175), (176, F176)]) ⟨ok128, ok129, ok174, ok175, ok176, trivial⟩)
noncomputable def B126 (k : Nat) : Tbl (RD R126 × MD P126) := (.loop 26 c126_L26 (b126_26 k) (fun g => (fun (g26 : Y0_9) => (.loop 30 c126_L30 (b126_30 k g26) (fun g => .nil) .nil)) (fun l_6 a4 pairs i5 => g ((), l_6, a4, pairs, i5, ()))) (.loop 10 c126_L10 (b126_10 k) (fun g => (fun (g10 : Y0_8) => (.loop 15 c126_L15 (b126_15 k g10) (fun g => (fun (g15 : Y0_12) => (.join 20 c126_J20 (fun d => j126_20 k g10 g15 d.2.1 d.2.2.1 d.2.2.2.1 d.2.2.2.2.1 d.2.2.2.2.2.1 d.2.2.2.2.2.2.1) (.join 19 c126_J19 (fun d => j126_19 k g10 g15 d.2.1 d.2.2.1 d.2.2.2.1 d.2.2.2.2.1 d.2.2.2.2.2.1) .nil))) (fun l_3 a1 i2 k_ => g ((), l_3, a1, i2, k_, ()))) .nil)) (fun l_2 a i1 => g ((), l_2, a, i1, ()))) (.loop 4 c126_L4 (b126_4 k) (fun g => .nil) .nil)))
noncomputable def F126 : Fn := ⟨P126, R126, fun k x => S126 k x.1⟩
theorem ok126 : FnOK Tryz.prog 126 F126 := evalF_ok (E := E126) (T := B126) E126_ok mix Tryz.func126 rfl (by kernel_rfl) (by kernel_rfl) (fun k => by kernel_rfl) (fun k x => by kernel_rfl)
noncomputable abbrev P127 : List PT := [.val ⟨false, Y0_2, false⟩]
noncomputable abbrev R127 : List RT := [.val ⟨false, (.sl 2 (.int .i64)), true⟩]
noncomputable abbrev c127_L8 : Cut := ⟨[0, 3, 4, 5, 6], [.cell Y0_2, .own 2 (.int .i64), .own 279 Y0_5, .cell (.int .i64), .cell (.int .i64)], [], 58, []⟩
noncomputable def l127_8 (k : Nat) (g4 : Y0_7) (g8 : (List Y0_0) → (List Int) → (List Y0_1) → Int → Int → Option Y0_11) (l_2 : List Y0_0) (out1 : List Int) (a1 : List Y0_1) (i1 : Int) (k_ : Int) : Option Y0_11 :=
 (bif decide (k_ < (a1.length : Int)) then
  ix a1 k_ <|
  (bif (rd a1 k_ (0, 0, 0, false)).2.2.2 then
   ix a1 k_ <|
   (S175 k (rd a1 k_ (0, 0, 0, false)) i1).bind fun q1 =>
   (bif q1.1.1 then
    ix out1 i1 <|
    ix a1 k_ <|
    ix l_2 (rd a1 k_ (0, 0, 0, false)).2.2.1 <|
    ix out1 i1 <|
    g8 l_2 (upd out1 i1 (IntKind.i64.wrap ((rd out1 i1 0) * (rd l_2 (rd a1 k_ (0, 0, 0, false)).2.2.1 (0, 0, 0, 0)).2.2.2))) a1 i1 (IntKind.i64.wrap (k_ + 1))
   else
    g8 l_2 out1 a1 i1 (IntKind.i64.wrap (k_ + 1)))
  else
   g8 l_2 out1 a1 i1 (IntKind.i64.wrap (k_ + 1)))
 else
  g4 l_2 out1 a1 (IntKind.i64.wrap (i1 + 1)))
noncomputable def b127_8 (k : Nat) (g4 : Y0_7) (g : ((Unit) × (List Y0_0) × (List Int) × (List Y0_1) × Int × Int × Unit) → Option Y0_11) (d : (Unit) × (List Y0_0) × (List Int) × (List Y0_1) × Int × Int × Unit) : Option Y0_11 := l127_8 k g4 (fun l_2 out1 a1 i1 k_ => g ((), l_2, out1, a1, i1, k_, ())) d.2.1 d.2.2.1 d.2.2.2.1 d.2.2.2.2.1 d.2.2.2.2.2.1
noncomputable def L127_8 (k : Nat) (g4 : Y0_7) (j : Nat) (l_2 : List Y0_0) (out1 : List Int) (a1 : List Y0_1) (i1 : Int) (k_ : Int) : Option Y0_11 := iter (R := ((List Int) × Unit) × Unit) c127_L8 (b127_8 k g4) j ((), l_2, out1, a1, i1, k_, ())
theorem L127_8_s (k : Nat) (g4 : Y0_7) (j : Nat) (l_2 : List Y0_0) (out1 : List Int) (a1 : List Y0_1) (i1 : Int) (k_ : Int) : L127_8 k g4 (j + 1) l_2 out1 a1 i1 k_ = l127_8 k g4 (L127_8 k g4 j) l_2 out1 a1 i1 k_ := iter_succ _ _ _ _
noncomputable abbrev c127_L4 : Cut := ⟨[0, 3, 4, 5], [.cell Y0_2, .own 2 (.int .i64), .own 279 Y0_5, .cell (.int .i64)], [], 58, []⟩
noncomputable def l127_4 (k : Nat) (g4 : Y0_7) (l_1 : List Y0_0) (out : List Int) (a : List Y0_1) (i : Int) : Option Y0_11 :=
 (bif decide (i < (l_1.length : Int)) then
  ix out i <|
  L127_8 k g4 k l_1 (upd out i 1) a i 0
 else
  some ((out, ()), ()))
noncomputable def b127_4 (k : Nat) (g : ((Unit) × (List Y0_0) × (List Int) × (List Y0_1) × Int × Unit) → Option Y0_11) (d : (Unit) × (List Y0_0) × (List Int) × (List Y0_1) × Int × Unit) : Option Y0_11 := l127_4 k (fun l_1 out a i => g ((), l_1, out, a, i, ())) d.2.1 d.2.2.1 d.2.2.2.1 d.2.2.2.2.1
noncomputable def L127_4 (k : Nat) (j : Nat) (l_1 : List Y0_0) (out : List Int) (a : List Y0_1) (i : Int) : Option Y0_11 := iter (R := ((List Int) × Unit) × Unit) c127_L4 (b127_4 k) j ((), l_1, out, a, i, ())
theorem L127_4_s (k : Nat) (j : Nat) (l_1 : List Y0_0) (out : List Int) (a : List Y0_1) (i : Int) : L127_4 k (j + 1) l_1 out a i = l127_4 k (L127_4 k j) l_1 out a i := iter_succ _ _ _ _
noncomputable def S127 (k : Nat) (l_ : List Y0_0) : Option Y0_11 :=
 mk (l_.length : Int) (l_.length : Int) 8 <|
 (S174 k l_).bind fun q0 =>
 L127_4 k k l_ (List.replicate (l_.length : Int).toNat (0 : Int)) q0.1.1 0
noncomputable def E127 : Env := tab.env (lk [(174, F174), (175, F175)]) (hintL [])
theorem E127_ok : EnvOK Tryz.prog E127 := envOK_of tabOK _ _ (allFn_lk (l := [(174, F174), (175, F175)]) ⟨ok174, ok175, trivial⟩)
noncomputable def B127 (k : Nat) : Tbl (RD R127 × MD P127) := (.loop 4 c127_L4 (b127_4 k) (fun g => (fun (g4 : Y0_7) => (.loop 8 c127_L8 (b127_8 k g4) (fun g => .nil) .nil)) (fun l_1 out a i => g ((), l_1, out, a, i, ()))) .nil)
noncomputable def F127 : Fn := ⟨P127, R127, fun k x => S127 k x.1⟩
theorem ok127 : FnOK Tryz.prog 127 F127 := evalF_ok (E := E127) (T := B127) E127_ok mix Tryz.func127 rfl (by kernel_rfl) (by kernel_rfl) (fun k => by kernel_rfl) (fun k x => by kernel_rfl)
end Go.Proofs.YtmmagcjlfcicfaaGreat.Ab
