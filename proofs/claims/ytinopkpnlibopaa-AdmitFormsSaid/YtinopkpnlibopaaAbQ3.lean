import Derived.Test.YtinopkpnlibopaaAbQ2
/- Contracts, printed by this session's own program gen.py. -/
set_option linter.unusedVariables false
set_option linter.unusedSimpArgs false
set_option maxRecDepth 100000
namespace Go.Proofs.Ytinopkpnlibopaa.Ab
open Go.RowKit
abbrev Y3_0 : Type := Int × Int × Int × (List (Int × Int × Int × Int)) × (List (Int × Int × Int × Int)) × List (Int × Int × Int × Int)
abbrev Y3_1 : Ty := .pair (.int .i64) (.pair (.int .i64) (.pair (.int .i64) (.pair (.sl 60 (.pair (.int .i64) (.pair (.int .i64) (.pair (.int .i64) (.int .i64))))) (.pair (.sl 60 (.pair (.int .i64) (.pair (.int .i64) (.pair (.int .i64) (.int .i64))))) (.sl 60 (.pair (.int .i64) (.pair (.int .i64) (.pair (.int .i64) (.int .i64)))))))))
abbrev Y3_2 : Type := Int × Int × Int × Int
abbrev Y3_3 : Ty := .sl 60 (.pair (.int .i64) (.pair (.int .i64) (.pair (.int .i64) (.int .i64))))
abbrev Y3_4 : Type := (Int × Int × Int × Unit) × Unit
abbrev Y3_5 : Type := ((List Y3_0) × (List (PN Int 5)) × Int × Unit) × Unit
abbrev Y3_6 : Type := (List Y3_0) → Int → Int → Int → Int → Int → Int → Bool → Option Y3_4
abbrev Y3_7 : Type := Int × Int × Int × (List Y3_2) × (List Y3_2) × (List Y3_2) × Unit
abbrev Y3_8 : Type := ((List (PN Int 5)) × Int × Unit) × Unit
abbrev Y3_9 : Type := (Bool × Unit) × Unit
noncomputable abbrev P59 : List PT := [.val ⟨false, (.int .i64), false⟩, .val ⟨false, (.int .i64), false⟩]
noncomputable abbrev R59 : List RT := [.val ⟨false, (.int .i64), true⟩, .val ⟨false, .bool, true⟩]
noncomputable def S59 (k : Nat) (a : Int) (b : Int) : Option ((Int × Bool × Unit) × Unit) :=
 (bif decide (b < 1) then
  some ((0, false, ()), ())
 else
  (bif decide (a < 0) then
   some ((0, false, ()), ())
  else
   nz b <|
   nz b <|
   (bif decide ((Int.tmod a b) > 0) then
    some ((IntKind.i64.wrap ((IntKind.i64.wrap (Int.tdiv a b)) + 1), true, ()), ())
   else
    some ((IntKind.i64.wrap (Int.tdiv a b), true, ()), ()))))
noncomputable def E59 : Env := tab.env (lk []) (hintL [])
theorem E59_ok : EnvOK Try.prog E59 := envOK_of tabOK _ _ (fun f F h => by cases h)
noncomputable def B59 (k : Nat) : Tbl (RD R59 × MD P59) := .nil
noncomputable def F59 : Fn := ⟨P59, R59, fun k x => S59 k x.1 x.2.1⟩
theorem ok59 : FnOK Try.prog 59 F59 := evalF_ok (E := E59) (T := B59) E59_ok mix Try.func59 rfl (by kernel_rfl) (by kernel_rfl) (fun k => by kernel_rfl) (fun k x => by kernel_rfl)
noncomputable abbrev P39 : List PT := [.val ⟨false, (.int .i64), false⟩, .val ⟨false, (.int .i64), false⟩]
noncomputable abbrev R39 : List RT := [.val ⟨false, (.int .i64), true⟩]
noncomputable def S39 (k : Nat) (r_ : Int) (v : Int) : Option ((Int × Unit) × Unit) :=
 (S59 k r_ v).bind fun q0 =>
 some ((q0.1.1, ()), ())
noncomputable def E39 : Env := tab.env (lk [(59, F59)]) (hintL [])
theorem E39_ok : EnvOK Try.prog E39 := envOK_of tabOK _ _ (allFn_lk (l := [(59, F59)]) ⟨ok59, trivial⟩)
noncomputable def B39 (k : Nat) : Tbl (RD R39 × MD P39) := .nil
noncomputable def F39 : Fn := ⟨P39, R39, fun k x => S39 k x.1 x.2.1⟩
theorem ok39 : FnOK Try.prog 39 F39 := evalF_ok (E := E39) (T := B39) E39_ok mix Try.func39 rfl (by kernel_rfl) (by kernel_rfl) (fun k => by kernel_rfl) (fun k x => by kernel_rfl)
noncomputable abbrev P16 : List PT := [.val ⟨false, (.sl 36 Y3_1), false⟩, .val ⟨false, (.int .i64), false⟩, .val ⟨false, (.int .i64), false⟩]
noncomputable abbrev R16 : List RT := [.val ⟨false, (.int .i64), true⟩, .val ⟨false, (.int .i64), true⟩, .val ⟨false, (.int .i64), true⟩]
noncomputable abbrev c16_L18 : Cut := ⟨[0, 1, 2, 6, 7, 12, 18, 19, 88, 89, 90], [.cell (.sl 36 Y3_1), .cell (.int .i64), .cell (.int .i64), .cell (.int .i64), .cell (.int .i64), .cell (.int .i64), .box 68 [.cell (.int .i64), .cell .bool], .box 68 [.cell (.int .i64), .cell .bool], .cell (.sl 36 Y3_1), .cell (.int .i64), .cell (.int .i64)], [], 128⟩
noncomputable def l16_18 (k : Nat) (g14 : Y3_6) (g18 : (List Y3_0) → Int → Int → Int → Int → Int → Int → Bool → Int → Bool → (List Y3_0) → Int → Int → Option Y3_4) (l_3 : List Y3_0) (i3 : Int) (apart3 : Int) (r_1 : Int) (rounds2 : Int) (lost2 : Int) (first2 : Int) (first3 : Bool) (next : Int) (next1 : Bool) (t88 : List Y3_0) (t89 : Int) (t90 : Int) : Option Y3_4 :=
 (bif decide (t90 < t89) then
  ix t88 t90 <|
  (S36 k (rd t88 t90 (0, 0, 0, [], [], []))).bind fun q7 =>
  (S39 k r_1 (rd t88 t90 (0, 0, 0, [], [], [])).2.1).bind fun q8 =>
  (S37 k next next1 q8.1.1 q7.1.1).bind fun q9 =>
  g18 l_3 i3 apart3 r_1 rounds2 lost2 first2 first3 q9.2.1.1 q9.2.1.2.1 t88 t89 (IntKind.i64.wrap (t90 + 1))
 else
  (bif next1 then
   some ((0, 0, 13, ()), ())
  else
   ix l_3 i3 <|
   (bif decide (next > (rd l_3 i3 (0, 0, 0, [], [], [])).2.2.1) then
    some ((0, 0, 14, ()), ())
   else
    (bif next == r_1 then
     some ((r_1, rounds2, 0, ()), ())
    else
     g14 l_3 i3 apart3 next rounds2 lost2 first2 first3))))
noncomputable def b16_18 (k : Nat) (g14 : Y3_6) (g : ((Unit) × (List Y3_0) × Int × Int × Int × Int × Int × (Int × Bool × Unit) × (Int × Bool × Unit) × (List Y3_0) × Int × Int × Unit) → Option Y3_4) (d : (Unit) × (List Y3_0) × Int × Int × Int × Int × Int × (Int × Bool × Unit) × (Int × Bool × Unit) × (List Y3_0) × Int × Int × Unit) : Option Y3_4 := l16_18 k g14 (fun l_3 i3 apart3 r_1 rounds2 lost2 first2 first3 next next1 t88 t89 t90 => g ((), l_3, i3, apart3, r_1, rounds2, lost2, (first2, first3, ()), (next, next1, ()), t88, t89, t90, ())) d.2.1 d.2.2.1 d.2.2.2.1 d.2.2.2.2.1 d.2.2.2.2.2.1 d.2.2.2.2.2.2.1 d.2.2.2.2.2.2.2.1.1 d.2.2.2.2.2.2.2.1.2.1 d.2.2.2.2.2.2.2.2.1.1 d.2.2.2.2.2.2.2.2.1.2.1 d.2.2.2.2.2.2.2.2.2.1 d.2.2.2.2.2.2.2.2.2.2.1 d.2.2.2.2.2.2.2.2.2.2.2.1
noncomputable def L16_18 (k : Nat) (g14 : Y3_6) (j : Nat) (l_3 : List Y3_0) (i3 : Int) (apart3 : Int) (r_1 : Int) (rounds2 : Int) (lost2 : Int) (first2 : Int) (first3 : Bool) (next : Int) (next1 : Bool) (t88 : List Y3_0) (t89 : Int) (t90 : Int) : Option Y3_4 := iter (R := (Int × Int × Int × Unit) × Unit) c16_L18 (b16_18 k g14) j ((), l_3, i3, apart3, r_1, rounds2, lost2, (first2, first3, ()), (next, next1, ()), t88, t89, t90, ())
theorem L16_18_s (k : Nat) (g14 : Y3_6) (j : Nat) (l_3 : List Y3_0) (i3 : Int) (apart3 : Int) (r_1 : Int) (rounds2 : Int) (lost2 : Int) (first2 : Int) (first3 : Bool) (next : Int) (next1 : Bool) (t88 : List Y3_0) (t89 : Int) (t90 : Int) : L16_18 k g14 (j + 1) l_3 i3 apart3 r_1 rounds2 lost2 first2 first3 next next1 t88 t89 t90 = l16_18 k g14 (L16_18 k g14 j) l_3 i3 apart3 r_1 rounds2 lost2 first2 first3 next next1 t88 t89 t90 := iter_succ _ _ _ _
noncomputable abbrev c16_L14 : Cut := ⟨[0, 1, 2, 6, 7, 12, 18], [.cell (.sl 36 Y3_1), .cell (.int .i64), .cell (.int .i64), .cell (.int .i64), .cell (.int .i64), .cell (.int .i64), .box 68 [.cell (.int .i64), .cell .bool]], [], 128⟩
noncomputable def l16_14 (k : Nat) (g14 : Y3_6) (l_2 : List Y3_0) (i2 : Int) (apart2 : Int) (r_ : Int) (rounds1 : Int) (lost1 : Int) (first : Int) (first1 : Bool) : Option Y3_4 :=
 (S39 k r_ apart2).bind fun q5 =>
 (S37 k first first1 q5.1.1 lost1).bind fun q6 =>
 sx l_2 0 i2 <|
 L16_18 k g14 k l_2 i2 apart2 r_ (IntKind.i64.wrap (rounds1 + 1)) lost1 first first1 q6.2.1.1 q6.2.1.2.1 (sub l_2 0 i2) ((sub l_2 0 i2).length : Int) 0
noncomputable def b16_14 (k : Nat) (g : ((Unit) × (List Y3_0) × Int × Int × Int × Int × Int × (Int × Bool × Unit) × Unit) → Option Y3_4) (d : (Unit) × (List Y3_0) × Int × Int × Int × Int × Int × (Int × Bool × Unit) × Unit) : Option Y3_4 := l16_14 k (fun l_2 i2 apart2 r_ rounds1 lost1 first first1 => g ((), l_2, i2, apart2, r_, rounds1, lost1, (first, first1, ()), ())) d.2.1 d.2.2.1 d.2.2.2.1 d.2.2.2.2.1 d.2.2.2.2.2.1 d.2.2.2.2.2.2.1 d.2.2.2.2.2.2.2.1.1 d.2.2.2.2.2.2.2.1.2.1
noncomputable def L16_14 (k : Nat) (j : Nat) (l_2 : List Y3_0) (i2 : Int) (apart2 : Int) (r_ : Int) (rounds1 : Int) (lost1 : Int) (first : Int) (first1 : Bool) : Option Y3_4 := iter (R := (Int × Int × Int × Unit) × Unit) c16_L14 (b16_14 k) j ((), l_2, i2, apart2, r_, rounds1, lost1, (first, first1, ()), ())
theorem L16_14_s (k : Nat) (j : Nat) (l_2 : List Y3_0) (i2 : Int) (apart2 : Int) (r_ : Int) (rounds1 : Int) (lost1 : Int) (first : Int) (first1 : Bool) : L16_14 k (j + 1) l_2 i2 apart2 r_ rounds1 lost1 first first1 = l16_14 k (L16_14 k j) l_2 i2 apart2 r_ rounds1 lost1 first first1 := iter_succ _ _ _ _
noncomputable abbrev c16_L6 : Cut := ⟨[0, 1, 2, 7, 9, 12, 54, 55, 56], [.cell (.sl 36 Y3_1), .cell (.int .i64), .cell (.int .i64), .cell (.int .i64), .cell (.int .i64), .cell (.int .i64), .cell (.sl 36 Y3_1), .cell (.int .i64), .cell (.int .i64)], [], 128⟩
noncomputable def l16_6 (k : Nat) (g6 : (List Y3_0) → Int → Int → Int → Int → Int → (List Y3_0) → Int → Int → Option Y3_4) (l_1 : List Y3_0) (i1 : Int) (apart1 : Int) (rounds : Int) (own : Int) (lost : Int) (t54 : List Y3_0) (t55 : Int) (t56 : Int) : Option Y3_4 :=
 (bif decide (t56 < t55) then
  ix t54 t56 <|
  (S36 k (rd t54 t56 (0, 0, 0, [], [], []))).bind fun q2 =>
  g6 l_1 i1 apart1 rounds own (mx lost q2.1.2.1) t54 t55 (IntKind.i64.wrap (t56 + 1))
 else
  (S38 k l_1 i1).bind fun q3 =>
  (S37 k own false 1 q3.1.1).bind fun q4 =>
  L16_14 k k l_1 i1 apart1 q4.2.1.1 rounds lost q4.2.1.1 q4.2.1.2.1)
noncomputable def b16_6 (k : Nat) (g : ((Unit) × (List Y3_0) × Int × Int × Int × Int × Int × (List Y3_0) × Int × Int × Unit) → Option Y3_4) (d : (Unit) × (List Y3_0) × Int × Int × Int × Int × Int × (List Y3_0) × Int × Int × Unit) : Option Y3_4 := l16_6 k (fun l_1 i1 apart1 rounds own lost t54 t55 t56 => g ((), l_1, i1, apart1, rounds, own, lost, t54, t55, t56, ())) d.2.1 d.2.2.1 d.2.2.2.1 d.2.2.2.2.1 d.2.2.2.2.2.1 d.2.2.2.2.2.2.1 d.2.2.2.2.2.2.2.1 d.2.2.2.2.2.2.2.2.1 d.2.2.2.2.2.2.2.2.2.1
noncomputable def L16_6 (k : Nat) (j : Nat) (l_1 : List Y3_0) (i1 : Int) (apart1 : Int) (rounds : Int) (own : Int) (lost : Int) (t54 : List Y3_0) (t55 : Int) (t56 : Int) : Option Y3_4 := iter (R := (Int × Int × Int × Unit) × Unit) c16_L6 (b16_6 k) j ((), l_1, i1, apart1, rounds, own, lost, t54, t55, t56, ())
theorem L16_6_s (k : Nat) (j : Nat) (l_1 : List Y3_0) (i1 : Int) (apart1 : Int) (rounds : Int) (own : Int) (lost : Int) (t54 : List Y3_0) (t55 : Int) (t56 : Int) : L16_6 k (j + 1) l_1 i1 apart1 rounds own lost t54 t55 t56 = l16_6 k (L16_6 k j) l_1 i1 apart1 rounds own lost t54 t55 t56 := iter_succ _ _ _ _
noncomputable def S16 (k : Nat) (l_ : List Y3_0) (i : Int) (apart : Int) : Option Y3_4 :=
 (S35 k l_).bind fun q0 =>
 (bif !q0.1.1 then
  some ((0, 0, 1, ()), ())
 else
  (bif decide (i < 0) then
   some ((0, 0, 1, ()), ())
  else
   (bif decide (i ≥ (l_.length : Int)) then
    some ((0, 0, 1, ()), ())
   else
    (bif decide (apart < 1) then
     some ((0, 0, 1, ()), ())
    else
     ix l_ i <|
     (S36 k (rd l_ i (0, 0, 0, [], [], []))).bind fun q1 =>
     sx l_ 0 (IntKind.i64.wrap (i + 1)) <|
     L16_6 k k l_ i apart 0 q1.1.1 0 (sub l_ 0 (IntKind.i64.wrap (i + 1))) ((sub l_ 0 (IntKind.i64.wrap (i + 1))).length : Int) 0))))
noncomputable def E16 : Env := tab.env (lk [(35, F35), (36, F36), (37, F37), (38, F38), (39, F39)]) (hintL [])
theorem E16_ok : EnvOK Try.prog E16 := envOK_of tabOK _ _ (allFn_lk (l := [(35, F35), (36, F36), (37, F37), (38, F38), (39, F39)]) ⟨ok35, ok36, ok37, ok38, ok39, trivial⟩)
noncomputable def B16 (k : Nat) : Tbl (RD R16 × MD P16) := (.loop 14 c16_L14 (b16_14 k) (fun g => (fun (g14 : Y3_6) => (.loop 18 c16_L18 (b16_18 k g14) (fun g => .nil) .nil)) (fun l_2 i2 apart2 r_ rounds1 lost1 first first1 => g ((), l_2, i2, apart2, r_, rounds1, lost1, (first, first1, ()), ()))) (.loop 6 c16_L6 (b16_6 k) (fun g => .nil) .nil))
noncomputable def F16 : Fn := ⟨P16, R16, fun k x => S16 k x.1 x.2.1 x.2.2.1⟩
theorem ok16 : FnOK Try.prog 16 F16 := evalF_ok (E := E16) (T := B16) E16_ok mix Try.func16 rfl (by kernel_rfl) (by kernel_rfl) (fun k => by kernel_rfl) (fun k x => by kernel_rfl)
noncomputable abbrev P26 : List PT := [.val ⟨false, (.sl 36 Y3_1), false⟩, .val ⟨false, (.int .i64), false⟩]
noncomputable abbrev R26 : List RT := [.val ⟨false, (.sl 62 (arrT 5 (.int .i64))), true⟩, .val ⟨false, (.int .i64), true⟩]
noncomputable abbrev c26_L4 : Cut := ⟨[0, 1, 4, 16, 17, 18], [.cell (.sl 36 Y3_1), .cell (.int .i64), .own 62 (arrT 5 (.int .i64)), .cell (.sl 36 Y3_1), .cell (.int .i64), .cell (.int .i64)], [], 56⟩
noncomputable def l26_4 (k : Nat) (g4 : (List Y3_0) → Int → (List (PN Int 5)) → (List Y3_0) → Int → Int → Option Y3_8) (l_1 : List Y3_0) (apart1 : Int) (out : List (PN Int 5)) (t16 : List Y3_0) (t17 : Int) (t18 : Int) : Option Y3_8 :=
 (bif decide (t18 < t17) then
  ix t16 t18 <|
  (S16 k l_1 t18 apart1).bind fun q0 =>
  (bif q0.1.2.2.1 != 0 then
   some ((([] : List (PN Int 5)), q0.1.2.2.1, ()), ())
  else
   (S36 k (rd t16 t18 (0, 0, 0, [], [], []))).bind fun q1 =>
   (S38 k l_1 t18).bind fun q2 =>
   ap out ([(q1.1.1, q1.1.2.1, q2.1.1, q0.1.1, IntKind.i64.wrap ((rd t16 t18 (0, 0, 0, [], [], [])).2.2.1 - q0.1.1))] : List (PN Int 5)) 40 fun r3 =>
   g4 l_1 apart1 r3 t16 t17 (IntKind.i64.wrap (t18 + 1)))
 else
  some ((out, 0, ()), ()))
noncomputable def b26_4 (k : Nat) (g : ((Unit) × (List Y3_0) × Int × (List (PN Int 5)) × (List Y3_0) × Int × Int × Unit) → Option Y3_8) (d : (Unit) × (List Y3_0) × Int × (List (PN Int 5)) × (List Y3_0) × Int × Int × Unit) : Option Y3_8 := l26_4 k (fun l_1 apart1 out t16 t17 t18 => g ((), l_1, apart1, out, t16, t17, t18, ())) d.2.1 d.2.2.1 d.2.2.2.1 d.2.2.2.2.1 d.2.2.2.2.2.1 d.2.2.2.2.2.2.1
noncomputable def L26_4 (k : Nat) (j : Nat) (l_1 : List Y3_0) (apart1 : Int) (out : List (PN Int 5)) (t16 : List Y3_0) (t17 : Int) (t18 : Int) : Option Y3_8 := iter (R := ((List (PN Int 5)) × Int × Unit) × Unit) c26_L4 (b26_4 k) j ((), l_1, apart1, out, t16, t17, t18, ())
theorem L26_4_s (k : Nat) (j : Nat) (l_1 : List Y3_0) (apart1 : Int) (out : List (PN Int 5)) (t16 : List Y3_0) (t17 : Int) (t18 : Int) : L26_4 k (j + 1) l_1 apart1 out t16 t17 t18 = l26_4 k (L26_4 k j) l_1 apart1 out t16 t17 t18 := iter_succ _ _ _ _
noncomputable def S26 (k : Nat) (l_ : List Y3_0) (apart : Int) : Option Y3_8 :=
 (bif decide (apart < 1) then
  some ((([] : List (PN Int 5)), 1, ()), ())
 else
  L26_4 k k l_ apart ([] : List (PN Int 5)) l_ (l_.length : Int) 0)
noncomputable def E26 : Env := tab.env (lk [(16, F16), (36, F36), (38, F38)]) (hintL [(4, 2)])
theorem E26_ok : EnvOK Try.prog E26 := envOK_of tabOK _ _ (allFn_lk (l := [(16, F16), (36, F36), (38, F38)]) ⟨ok16, ok36, ok38, trivial⟩)
noncomputable def B26 (k : Nat) : Tbl (RD R26 × MD P26) := (.loop 4 c26_L4 (b26_4 k) (fun g => .nil) .nil)
noncomputable def F26 : Fn := ⟨P26, R26, fun k x => S26 k x.1 x.2.1⟩
theorem ok26 : FnOK Try.prog 26 F26 := evalF_ok (E := E26) (T := B26) E26_ok mix Try.func26 rfl (by kernel_rfl) (by kernel_rfl) (fun k => by kernel_rfl) (fun k x => by kernel_rfl)
noncomputable abbrev P29 : List PT := [.val ⟨false, (.sl 36 Y3_1), false⟩, .val ⟨true, Y3_1, false⟩, .val ⟨false, (.int .i64), false⟩]
noncomputable abbrev R29 : List RT := [.val ⟨false, (.sl 36 Y3_1), true⟩, .val ⟨false, (.sl 62 (arrT 5 (.int .i64))), true⟩, .val ⟨false, (.int .i64), true⟩]
noncomputable abbrev c29_J23 : Cut := ⟨[2, 4, 13, 16], [.cell (.int .i64), .box 36 [.cell (.int .i64), .cell (.int .i64), .cell (.int .i64), .cell Y3_3, .cell Y3_3, .cell Y3_3], .own 36 Y3_1, .cell (.int .i64)], [], 82⟩
noncomputable def j29_23 (k : Nat) (apart3 : Int) (t13 : Int) (t14 : Int) (t15 : Int) (t16 : List Y3_2) (t17 : List Y3_2) (t18 : List Y3_2) (out1 : List Y3_0) (at_ : Int) : Option Y3_5 :=
 (S48 k (t13, t14, t15, t16, t17, t18)).bind fun q4 =>
 (S51 k out1 at_ ([q4.1.1] : List Y3_0)).bind fun q5 =>
 (S26 k q5.1.1 apart3).bind fun q6 =>
 (bif q6.1.2.1 != 0 then
  some (([], [], q6.1.2.1, ()), ())
 else
  some ((q5.1.1, q6.1.1, 0, ()), ()))
noncomputable abbrev c29_L16 : Cut := ⟨[2, 4, 13, 46, 47, 48], [.cell (.int .i64), .box 36 [.cell (.int .i64), .cell (.int .i64), .cell (.int .i64), .cell Y3_3, .cell Y3_3, .cell Y3_3], .own 36 Y3_1, .cell (.sl 36 Y3_1), .cell (.int .i64), .cell (.int .i64)], [], 82⟩
noncomputable def l29_16 (k : Nat) (g16 : Int → Int → Int → Int → (List Y3_2) → (List Y3_2) → (List Y3_2) → (List Y3_0) → (List Y3_0) → Int → Int → Option Y3_5) (apart2 : Int) (t7 : Int) (t8 : Int) (t9 : Int) (t10 : List Y3_2) (t11 : List Y3_2) (t12 : List Y3_2) (out : List Y3_0) (t46 : List Y3_0) (t47 : Int) (t48 : Int) : Option Y3_5 :=
 (bif decide (t48 < t47) then
  ix t46 t48 <|
  (S48 k (rd t46 t48 (0, 0, 0, [], [], []))).bind fun q1 =>
  ap out ([q1.1.1] : List Y3_0) 96 fun r2 =>
  g16 apart2 t7 t8 t9 t10 t11 t12 r2 t46 t47 (IntKind.i64.wrap (t48 + 1))
 else
  (S49 k out (t7, t8, t9, t10, t11, t12)).bind fun q3 =>
  (bif decide (q3.1.1 < 0) then
   j29_23 k apart2 t7 t8 t9 t10 t11 t12 out (out.length : Int)
  else
   j29_23 k apart2 t7 t8 t9 t10 t11 t12 out q3.1.1))
noncomputable def b29_16 (k : Nat) (g : ((Unit) × Int × Y3_7 × (List Y3_0) × (List Y3_0) × Int × Int × Unit) → Option Y3_5) (d : (Unit) × Int × Y3_7 × (List Y3_0) × (List Y3_0) × Int × Int × Unit) : Option Y3_5 := l29_16 k (fun apart2 t7 t8 t9 t10 t11 t12 out t46 t47 t48 => g ((), apart2, (t7, t8, t9, t10, t11, t12, ()), out, t46, t47, t48, ())) d.2.1 d.2.2.1.1 d.2.2.1.2.1 d.2.2.1.2.2.1 d.2.2.1.2.2.2.1 d.2.2.1.2.2.2.2.1 d.2.2.1.2.2.2.2.2.1 d.2.2.2.1 d.2.2.2.2.1 d.2.2.2.2.2.1 d.2.2.2.2.2.2.1
noncomputable def L29_16 (k : Nat) (j : Nat) (apart2 : Int) (t7 : Int) (t8 : Int) (t9 : Int) (t10 : List Y3_2) (t11 : List Y3_2) (t12 : List Y3_2) (out : List Y3_0) (t46 : List Y3_0) (t47 : Int) (t48 : Int) : Option Y3_5 := iter (R := ((List Y3_0) × (List (PN Int 5)) × Int × Unit) × Unit) c29_L16 (b29_16 k) j ((), apart2, (t7, t8, t9, t10, t11, t12, ()), out, t46, t47, t48, ())
theorem L29_16_s (k : Nat) (j : Nat) (apart2 : Int) (t7 : Int) (t8 : Int) (t9 : Int) (t10 : List Y3_2) (t11 : List Y3_2) (t12 : List Y3_2) (out : List Y3_0) (t46 : List Y3_0) (t47 : Int) (t48 : Int) : L29_16 k (j + 1) apart2 t7 t8 t9 t10 t11 t12 out t46 t47 t48 = l29_16 k (L29_16 k j) apart2 t7 t8 t9 t10 t11 t12 out t46 t47 t48 := iter_succ _ _ _ _
noncomputable abbrev c29_L3 : Cut := ⟨[0, 2, 4, 9, 20, 21, 22], [.cell (.sl 36 Y3_1), .cell (.int .i64), .box 36 [.cell (.int .i64), .cell (.int .i64), .cell (.int .i64), .cell Y3_3, .cell Y3_3, .cell Y3_3], .mp 80 true (.int .i64) false .bool, .cell (.sl 36 Y3_1), .cell (.int .i64), .cell (.int .i64)], [], 82⟩
noncomputable def l29_3 (k : Nat) (g3 : (List Y3_0) → Int → Int → Int → Int → (List Y3_2) → (List Y3_2) → (List Y3_2) → (List (Int × Bool)) → (List Y3_0) → Int → Int → Option Y3_5) (l_1 : List Y3_0) (apart1 : Int) (t1 : Int) (t2 : Int) (t3 : Int) (t4 : List Y3_2) (t5 : List Y3_2) (t6 : List Y3_2) (ranks : List (Int × Bool)) (t20 : List Y3_0) (t21 : Int) (t22 : Int) : Option Y3_5 :=
 (bif decide (t22 < t21) then
  ix t20 t22 <|
  g3 l_1 apart1 t1 t2 t3 t4 t5 t6 (updD (.int .i64) .bool (rd t20 t22 (0, 0, 0, [], [], [])).1 true ranks) t20 t21 (IntKind.i64.wrap (t22 + 1))
 else
  (S47 k (t1, t2, t3, t4, t5, t6)).bind fun q0 =>
  (bif q0.1.1 != 0 then
   some (([], [], q0.1.1, ()), ())
  else
   (bif mget (.int .i64) .bool t1 ranks false then
    some (([], [], 11, ()), ())
   else
    (bif decide ((l_1.length : Int) ≥ 8) then
     some (([], [], 4, ()), ())
    else
     L29_16 k k apart1 t1 t2 t3 t4 t5 t6 ([] : List Y3_0) l_1 (l_1.length : Int) 0))))
noncomputable def b29_3 (k : Nat) (g : ((Unit) × (List Y3_0) × Int × Y3_7 × (List (Int × Bool)) × (List Y3_0) × Int × Int × Unit) → Option Y3_5) (d : (Unit) × (List Y3_0) × Int × Y3_7 × (List (Int × Bool)) × (List Y3_0) × Int × Int × Unit) : Option Y3_5 := l29_3 k (fun l_1 apart1 t1 t2 t3 t4 t5 t6 ranks t20 t21 t22 => g ((), l_1, apart1, (t1, t2, t3, t4, t5, t6, ()), ranks, t20, t21, t22, ())) d.2.1 d.2.2.1 d.2.2.2.1.1 d.2.2.2.1.2.1 d.2.2.2.1.2.2.1 d.2.2.2.1.2.2.2.1 d.2.2.2.1.2.2.2.2.1 d.2.2.2.1.2.2.2.2.2.1 d.2.2.2.2.1 d.2.2.2.2.2.1 d.2.2.2.2.2.2.1 d.2.2.2.2.2.2.2.1
noncomputable def L29_3 (k : Nat) (j : Nat) (l_1 : List Y3_0) (apart1 : Int) (t1 : Int) (t2 : Int) (t3 : Int) (t4 : List Y3_2) (t5 : List Y3_2) (t6 : List Y3_2) (ranks : List (Int × Bool)) (t20 : List Y3_0) (t21 : Int) (t22 : Int) : Option Y3_5 := iter (R := ((List Y3_0) × (List (PN Int 5)) × Int × Unit) × Unit) c29_L3 (b29_3 k) j ((), l_1, apart1, (t1, t2, t3, t4, t5, t6, ()), ranks, t20, t21, t22, ())
theorem L29_3_s (k : Nat) (j : Nat) (l_1 : List Y3_0) (apart1 : Int) (t1 : Int) (t2 : Int) (t3 : Int) (t4 : List Y3_2) (t5 : List Y3_2) (t6 : List Y3_2) (ranks : List (Int × Bool)) (t20 : List Y3_0) (t21 : Int) (t22 : Int) : L29_3 k (j + 1) l_1 apart1 t1 t2 t3 t4 t5 t6 ranks t20 t21 t22 = l29_3 k (L29_3 k j) l_1 apart1 t1 t2 t3 t4 t5 t6 ranks t20 t21 t22 := iter_succ _ _ _ _
noncomputable def S29 (k : Nat) (l_ : List Y3_0) (t : Int × Int × Int × (List Y3_2) × (List Y3_2) × List Y3_2) (apart : Int) : Option Y3_5 :=
 L29_3 k k l_ apart t.1 t.2.1 t.2.2.1 t.2.2.2.1 t.2.2.2.2.1 t.2.2.2.2.2 ([] : List (Int × Bool)) l_ (l_.length : Int) 0
noncomputable def E29 : Env := tab.env (lk [(26, F26), (47, F47), (48, F48), (49, F49), (51, F51)]) (hintL [(13, 2)])
theorem E29_ok : EnvOK Try.prog E29 := envOK_of tabOK _ _ (allFn_lk (l := [(26, F26), (47, F47), (48, F48), (49, F49), (51, F51)]) ⟨ok26, ok47, ok48, ok49, ok51, trivial⟩)
noncomputable def B29 (k : Nat) : Tbl (RD R29 × MD P29) := (.join 23 c29_J23 (fun d => j29_23 k d.2.1 d.2.2.1.1 d.2.2.1.2.1 d.2.2.1.2.2.1 d.2.2.1.2.2.2.1 d.2.2.1.2.2.2.2.1 d.2.2.1.2.2.2.2.2.1 d.2.2.2.1 d.2.2.2.2.1) (.loop 16 c29_L16 (b29_16 k) (fun g => .nil) (.loop 3 c29_L3 (b29_3 k) (fun g => .nil) .nil)))
noncomputable def F29 : Fn := ⟨P29, R29, fun k x => S29 k x.1 x.2.1 x.2.2.1⟩
theorem ok29 : FnOK Try.prog 29 F29 := evalF_ok (E := E29) (T := B29) E29_ok mix Try.func29 rfl (by kernel_rfl) (by kernel_rfl) (fun k => by kernel_rfl) (fun k x => by kernel_rfl)
noncomputable abbrev P23 : List PT := []
noncomputable abbrev R23 : List RT := [.val ⟨false, .bool, true⟩]
noncomputable def S23 (k : Nat) : Option Y3_9 :=
 (S29 k [] (1, 50, 40, ([(1, 0, 0, 0), (1, 0, 0, 0), (0, 0, 0, 0)] : List Y3_2), [], []) 100).bind fun q0 =>
 (S29 k q0.1.1 (1, 50, 40, ([(1, 0, 0, 0), (1, 0, 0, 0), (0, 0, 0, 0)] : List Y3_2), [], []) 100).bind fun q1 =>
 (S26 k q0.1.1 100).bind fun q2 =>
 (bif q0.1.2.2.1 == 0 then
  (bif (q0.1.1.length : Int) == 1 then
   (bif (q0.1.2.1.length : Int) == 1 then
    ix q0.1.2.1 0 <|
    (bif (rd q0.1.2.1 0 (prep (α := Int) 5 0)).2.2.2.1 == 6 then
     ix q0.1.2.1 0 <|
     (bif (rd q0.1.2.1 0 (prep (α := Int) 5 0)).2.2.2.2 == 34 then
      (bif q1.1.2.2.1 == 11 then
       (bif q2.1.2.1 == 0 then
        (bif (q2.1.1.length : Int) == 1 then
         ix q2.1.1 0 <|
         ix q0.1.2.1 0 <|
         some ((beqD (arrT 5 (.int .i64)) (rd q2.1.1 0 (prep (α := Int) 5 0)) (rd q0.1.2.1 0 (prep (α := Int) 5 0)), ()), ())
        else
         some ((false, ()), ()))
       else
        some ((false, ()), ()))
      else
       some ((false, ()), ()))
     else
      some ((false, ()), ()))
    else
     some ((false, ()), ()))
   else
    some ((false, ()), ()))
  else
   some ((false, ()), ()))
 else
  some ((false, ()), ()))
noncomputable def E23 : Env := tab.env (lk [(26, F26), (29, F29)]) (hintL [])
theorem E23_ok : EnvOK Try.prog E23 := envOK_of tabOK _ _ (allFn_lk (l := [(26, F26), (29, F29)]) ⟨ok26, ok29, trivial⟩)
noncomputable def B23 (k : Nat) : Tbl (RD R23 × MD P23) := .nil
noncomputable def F23 : Fn := ⟨P23, R23, fun k x => S23 k ⟩
theorem ok23 : FnOK Try.prog 23 F23 := evalF_ok (E := E23) (T := B23) E23_ok mix Try.func23 rfl (by kernel_rfl) (by kernel_rfl) (fun k => by kernel_rfl) (fun k x => by kernel_rfl)
noncomputable abbrev P11 : List PT := []
noncomputable abbrev R11 : List RT := [.val ⟨false, .bool, true⟩]
noncomputable abbrev c11_L6 : Cut := ⟨[1, 2, 3], [.own 36 Y3_1, .cell Y3_3, .cell (.int .i64)], [], 199⟩
noncomputable def l11_6 (k : Nat) (g6 : (List Y3_0) → (List Y3_2) → Int → Option Y3_9) (l_ : List Y3_0) (main : List Y3_2) (i : Int) : Option Y3_9 :=
 (bif decide (i < 8) then
  (S29 k l_ (IntKind.i64.wrap (60 - (IntKind.i64.wrap (5 * i))), 100, 100, main, [], []) 100).bind fun q1 =>
  (bif q1.1.2.2.1 != 0 then
   some ((false, ()), ())
  else
   (bif (q1.1.1.length : Int) != (IntKind.i64.wrap (i + 1)) then
    some ((false, ()), ())
   else
    (bif (q1.1.2.1.length : Int) != (IntKind.i64.wrap (i + 1)) then
     some ((false, ()), ())
    else
     ix q1.1.1 0 <|
     (bif (rd q1.1.1 0 (0, 0, 0, [], [], [])).1 != (IntKind.i64.wrap (60 - (IntKind.i64.wrap (5 * i)))) then
      some ((false, ()), ())
     else
      ix q1.1.2.1 i <|
      (bif (rd q1.1.2.1 i (prep (α := Int) 5 0)).2.2.2.1 != (IntKind.i64.wrap ((IntKind.i64.wrap (2 * i)) + 4)) then
       some ((false, ()), ())
      else
       g6 q1.1.1 main (IntKind.i64.wrap (i + 1)))))))
 else
  (S29 k l_ (3, 100, 100, main, [], []) 100).bind fun q2 =>
  (S29 k l_ (25, 100, 100, main, [], []) 100).bind fun q3 =>
  sx l_ 0 3 <|
  (S29 k (sub l_ 0 3) (3, 100, 3, main, [], []) 100).bind fun q4 =>
  sx l_ 0 3 <|
  (S29 k (sub l_ 0 3) (3, 100, 4, main, [], []) 100).bind fun q5 =>
  sx l_ 0 3 <|
  (S29 k (sub l_ 0 3) (3, 100, 100, main, [], []) 0).bind fun q6 =>
  sx l_ 0 3 <|
  (S29 k (sub l_ 0 3) (3, 0, 100, main, [], []) 0).bind fun q7 =>
  ix l_ 1 <|
  ix l_ 0 <|
  (S26 k ([rd l_ 1 (0, 0, 0, [], [], []), rd l_ 0 (0, 0, 0, [], [], [])] : List Y3_0) 100).bind fun q8 =>
  (S26 k [] 0).bind fun q9 =>
  (S26 k [] 1).bind fun q10 =>
  (bif q2.1.2.2.1 == 4 then
   (bif q3.1.2.2.1 == 11 then
    (bif q4.1.2.2.1 == 14 then
     (bif q5.1.2.2.1 == 0 then
      (bif q6.1.2.2.1 == 1 then
       (bif q7.1.2.2.1 == 9 then
        (bif q8.1.2.1 == 1 then
         (bif q9.1.2.1 == 1 then
          (bif q10.1.2.1 == 0 then
           some (((q10.1.1.length : Int) == 0, ()), ())
          else
           some ((false, ()), ()))
         else
          some ((false, ()), ()))
        else
         some ((false, ()), ()))
       else
        some ((false, ()), ()))
      else
       some ((false, ()), ()))
     else
      some ((false, ()), ()))
    else
     some ((false, ()), ()))
   else
    some ((false, ()), ()))
  else
   some ((false, ()), ())))
noncomputable def b11_6 (k : Nat) (g : ((Unit) × (List Y3_0) × (List Y3_2) × Int × Unit) → Option Y3_9) (d : (Unit) × (List Y3_0) × (List Y3_2) × Int × Unit) : Option Y3_9 := l11_6 k (fun l_ main i => g ((), l_, main, i, ())) d.2.1 d.2.2.1 d.2.2.2.1
noncomputable def L11_6 (k : Nat) (j : Nat) (l_ : List Y3_0) (main : List Y3_2) (i : Int) : Option Y3_9 := iter (R := (Bool × Unit) × Unit) c11_L6 (b11_6 k) j ((), l_, main, i, ())
theorem L11_6_s (k : Nat) (j : Nat) (l_ : List Y3_0) (main : List Y3_2) (i : Int) : L11_6 k (j + 1) l_ main i = l11_6 k (L11_6 k j) l_ main i := iter_succ _ _ _ _
noncomputable def S11 (k : Nat) : Option Y3_9 :=
 (S23 k).bind fun q0 =>
 (bif !q0.1.1 then
  some ((false, ()), ())
 else
  L11_6 k k ([] : List Y3_0) ([(1, 0, 0, 0), (0, 0, 0, 0)] : List Y3_2) 0)
noncomputable def E11 : Env := tab.env (lk [(23, F23), (26, F26), (29, F29)]) (hintL [(1, 2)])
theorem E11_ok : EnvOK Try.prog E11 := envOK_of tabOK _ _ (allFn_lk (l := [(23, F23), (26, F26), (29, F29)]) ⟨ok23, ok26, ok29, trivial⟩)
noncomputable def B11 (k : Nat) : Tbl (RD R11 × MD P11) := (.loop 6 c11_L6 (b11_6 k) (fun g => .nil) .nil)
noncomputable def F11 : Fn := ⟨P11, R11, fun k x => S11 k ⟩
theorem ok11 : FnOK Try.prog 11 F11 := evalF_ok (E := E11) (T := B11) E11_ok mix Try.func11 rfl (by kernel_rfl) (by kernel_rfl) (fun k => by kernel_rfl) (fun k x => by kernel_rfl)
end Go.Proofs.Ytinopkpnlibopaa.Ab
