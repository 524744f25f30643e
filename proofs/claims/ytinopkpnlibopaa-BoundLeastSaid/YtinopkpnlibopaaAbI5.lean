import Derived.Test.YtinopkpnlibopaaAbI4
/- Contracts, printed by this session's own program gen.py. -/
set_option linter.unusedVariables false
set_option linter.unusedSimpArgs false
set_option maxRecDepth 100000
namespace Go.Proofs.Ytinopkpnlibopaa.Ab
open Go.RowKit
abbrev Y5_0 : Type := Int × Int × Int × (List (Int × Int × Int × Int)) × (List (Int × Int × Int × Int)) × List (Int × Int × Int × Int)
abbrev Y5_1 : Ty := .pair (.int .i64) (.pair (.int .i64) (.pair (.int .i64) (.pair (.sl 60 (.pair (.int .i64) (.pair (.int .i64) (.pair (.int .i64) (.int .i64))))) (.pair (.sl 60 (.pair (.int .i64) (.pair (.int .i64) (.pair (.int .i64) (.int .i64))))) (.sl 60 (.pair (.int .i64) (.pair (.int .i64) (.pair (.int .i64) (.int .i64)))))))))
abbrev Y5_2 : Type := Int → (List Y5_0) → Int → Option ((Bool × Unit) × Unit)
abbrev Y5_3 : Type := (Bool × Unit) × Unit
noncomputable abbrev P4 : List PT := [.val ⟨false, (.sl 5 (.int .u8)), false⟩, .val ⟨false, (.int .u8), false⟩]
noncomputable abbrev R4 : List RT := [.val ⟨false, .bool, true⟩]
noncomputable abbrev c4_J18 : Cut := ⟨[1, 5, 6, 7, 8, 9, 10], [.cell (.int .u8), .own 36 Y5_1, .cell (.int .i64), .cell (.int .i64), .cell (.int .i64), .cell (.int .i64), .cell (.int .i64)], [], 111⟩
noncomputable def j4_18 (k : Nat) (g7 : Y5_2) (apart3 : Int) (l_2 : List Y5_0) (i2 : Int) (r_1 : Int) (n1 : Int) (e1 : Int) (least1 : Int) : Option Y5_3 :=
 (bif least1 == 0 then
  (bif e1 != 14 then
   some ((false, ()), ())
  else
   (bif r_1 != 0 then
    some ((false, ()), ())
   else
    (bif n1 != 0 then
     some ((false, ()), ())
    else
     (bif decide (least1 > 0) then
      (bif e1 != 0 then
       some ((false, ()), ())
      else
       (bif r_1 != least1 then
        some ((false, ()), ())
       else
        (bif decide (n1 < 1) then
         some ((false, ()), ())
        else
         ix l_2 i2 <|
         (bif decide (n1 > (IntKind.i64.wrap ((rd l_2 i2 (0, 0, 0, [], [], [])).2.2.1 + 1))) then
          some ((false, ()), ())
         else
          g7 apart3 l_2 (IntKind.i64.wrap (i2 + 1))))))
     else
      g7 apart3 l_2 (IntKind.i64.wrap (i2 + 1))))))
 else
  (bif decide (least1 > 0) then
   (bif e1 != 0 then
    some ((false, ()), ())
   else
    (bif r_1 != least1 then
     some ((false, ()), ())
    else
     (bif decide (n1 < 1) then
      some ((false, ()), ())
     else
      ix l_2 i2 <|
      (bif decide (n1 > (IntKind.i64.wrap ((rd l_2 i2 (0, 0, 0, [], [], [])).2.2.1 + 1))) then
       some ((false, ()), ())
      else
       g7 apart3 l_2 (IntKind.i64.wrap (i2 + 1))))))
  else
   g7 apart3 l_2 (IntKind.i64.wrap (i2 + 1))))
noncomputable abbrev c4_L13 : Cut := ⟨[1, 5, 6, 7, 8, 9, 10, 11, 12], [.cell (.int .u8), .own 36 Y5_1, .cell (.int .i64), .cell (.int .i64), .cell (.int .i64), .cell (.int .i64), .cell (.int .i64), .box 32 [.own 2 (.int .i64), .cell (.int .i64), .cell (.int .i64), .own 2 (.int .i64)], .cell (.int .i64)], [], 111⟩
noncomputable def l4_13 (k : Nat) (g7 : Y5_2) (g13 : Int → (List Y5_0) → Int → Int → Int → Int → Int → (List Int) → Int → Int → (List Int) → Int → Option Y5_3) (apart2 : Int) (l_1 : List Y5_0) (i1 : Int) (r_ : Int) (n : Int) (e : Int) (least : Int) (row : List Int) (row1 : Int) (row2 : Int) (row3 : List Int) (x : Int) : Option Y5_3 :=
 ix l_1 i1 <|
 (bif decide (x ≤ (rd l_1 i1 (0, 0, 0, [], [], [])).2.2.1) then
  (bif least == 0 then
   (S19 k (row, row1, row2, row3) (IntKind.i64.wrap (1 + (IntKind.i64.wrap apart2))) x).bind fun q4 =>
   (bif q4.1.2.1 then
    (bif q4.1.1 == x then
     g13 apart2 l_1 i1 r_ n e x row row1 row2 row3 (IntKind.i64.wrap (x + 1))
    else
     g13 apart2 l_1 i1 r_ n e least row row1 row2 row3 (IntKind.i64.wrap (x + 1)))
   else
    g13 apart2 l_1 i1 r_ n e least row row1 row2 row3 (IntKind.i64.wrap (x + 1)))
  else
   j4_18 k g7 apart2 l_1 i1 r_ n e least)
 else
  j4_18 k g7 apart2 l_1 i1 r_ n e least)
noncomputable def b4_13 (k : Nat) (g7 : Y5_2) (g : ((Unit) × Int × (List Y5_0) × Int × Int × Int × Int × Int × ((List Int) × Int × Int × (List Int) × Unit) × Int × Unit) → Option Y5_3) (d : (Unit) × Int × (List Y5_0) × Int × Int × Int × Int × Int × ((List Int) × Int × Int × (List Int) × Unit) × Int × Unit) : Option Y5_3 := l4_13 k g7 (fun apart2 l_1 i1 r_ n e least row row1 row2 row3 x => g ((), apart2, l_1, i1, r_, n, e, least, (row, row1, row2, row3, ()), x, ())) d.2.1 d.2.2.1 d.2.2.2.1 d.2.2.2.2.1 d.2.2.2.2.2.1 d.2.2.2.2.2.2.1 d.2.2.2.2.2.2.2.1 d.2.2.2.2.2.2.2.2.1.1 d.2.2.2.2.2.2.2.2.1.2.1 d.2.2.2.2.2.2.2.2.1.2.2.1 d.2.2.2.2.2.2.2.2.1.2.2.2.1 d.2.2.2.2.2.2.2.2.2.1
noncomputable def L4_13 (k : Nat) (g7 : Y5_2) (j : Nat) (apart2 : Int) (l_1 : List Y5_0) (i1 : Int) (r_ : Int) (n : Int) (e : Int) (least : Int) (row : List Int) (row1 : Int) (row2 : Int) (row3 : List Int) (x : Int) : Option Y5_3 := iter (R := (Bool × Unit) × Unit) c4_L13 (b4_13 k g7) j ((), apart2, l_1, i1, r_, n, e, least, (row, row1, row2, row3, ()), x, ())
theorem L4_13_s (k : Nat) (g7 : Y5_2) (j : Nat) (apart2 : Int) (l_1 : List Y5_0) (i1 : Int) (r_ : Int) (n : Int) (e : Int) (least : Int) (row : List Int) (row1 : Int) (row2 : Int) (row3 : List Int) (x : Int) : L4_13 k g7 (j + 1) apart2 l_1 i1 r_ n e least row row1 row2 row3 x = l4_13 k g7 (L4_13 k g7 j) apart2 l_1 i1 r_ n e least row row1 row2 row3 x := iter_succ _ _ _ _
noncomputable abbrev c4_L7 : Cut := ⟨[1, 5, 6], [.cell (.int .u8), .own 36 Y5_1, .cell (.int .i64)], [], 111⟩
noncomputable def l4_7 (k : Nat) (g7 : Y5_2) (apart1 : Int) (l_ : List Y5_0) (i : Int) : Option Y5_3 :=
 (bif decide (i < (l_.length : Int)) then
  (S16 k l_ i (IntKind.i64.wrap (1 + (IntKind.i64.wrap apart1)))).bind fun q2 =>
  (S18 k l_ i).bind fun q3 =>
  L4_13 k g7 k apart1 l_ i q2.1.1 q2.1.2.1 q2.1.2.2.1 0 q3.1.1.1 q3.1.1.2.1 q3.1.1.2.2.1 q3.1.1.2.2.2 1
 else
  some ((true, ()), ()))
noncomputable def b4_7 (k : Nat) (g : ((Unit) × Int × (List Y5_0) × Int × Unit) → Option Y5_3) (d : (Unit) × Int × (List Y5_0) × Int × Unit) : Option Y5_3 := l4_7 k (fun apart1 l_ i => g ((), apart1, l_, i, ())) d.2.1 d.2.2.1 d.2.2.2.1
noncomputable def L4_7 (k : Nat) (j : Nat) (apart1 : Int) (l_ : List Y5_0) (i : Int) : Option Y5_3 := iter (R := (Bool × Unit) × Unit) c4_L7 (b4_7 k) j ((), apart1, l_, i, ())
theorem L4_7_s (k : Nat) (j : Nat) (apart1 : Int) (l_ : List Y5_0) (i : Int) : L4_7 k (j + 1) apart1 l_ i = l4_7 k (L4_7 k j) apart1 l_ i := iter_succ _ _ _ _
noncomputable def S4 (k : Nat) (picks : List Int) (apart : Int) : Option Y5_3 :=
 (S14 k).bind fun q0 =>
 (bif !q0.1.1 then
  some ((false, ()), ())
 else
  (bif decide ((picks.length : Int) > 200) then
   some ((true, ()), ())
  else
   (S15 k picks 4).bind fun q1 =>
   L4_7 k k apart q1.1.1 0))
noncomputable def E4 : Env := tab.env (lk [(14, F14), (15, F15), (16, F16), (18, F18), (19, F19)]) (hintL [])
theorem E4_ok : EnvOK Try.prog E4 := envOK_of tabOK _ _ (allFn_lk (l := [(14, F14), (15, F15), (16, F16), (18, F18), (19, F19)]) ⟨ok14, ok15, ok16, ok18, ok19, trivial⟩)
noncomputable def B4 (k : Nat) : Tbl (RD R4 × MD P4) := (.loop 7 c4_L7 (b4_7 k) (fun g => (fun (g7 : Y5_2) => (.loop 13 c4_L13 (b4_13 k g7) (fun g => .nil) (.join 18 c4_J18 (fun d => j4_18 k g7 d.2.1 d.2.2.1 d.2.2.2.1 d.2.2.2.2.1 d.2.2.2.2.2.1 d.2.2.2.2.2.2.1 d.2.2.2.2.2.2.2.1) .nil))) (fun apart1 l_ i => g ((), apart1, l_, i, ()))) .nil)
noncomputable def F4 : Fn := ⟨P4, R4, fun k x => S4 k x.1 x.2.1⟩
theorem ok4 : FnOK Try.prog 4 F4 := evalF_ok (E := E4) (T := B4) E4_ok mix Try.func4 rfl (by kernel_rfl) (by kernel_rfl) (fun k => by kernel_rfl) (fun k x => by kernel_rfl)
end Go.Proofs.Ytinopkpnlibopaa.Ab
