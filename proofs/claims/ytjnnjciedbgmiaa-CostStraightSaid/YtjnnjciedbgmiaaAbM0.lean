import Derived.Test.YtjnnjciedbgmiaaAbLib
/- Contracts, printed by this session's own program gen.py. -/
set_option linter.unusedVariables false
set_option linter.unusedSimpArgs false
set_option maxRecDepth 100000
namespace Go.Proofs.Ytjnnjciedbgmiaa.Ab
open Go.RowKit Go.Proofs.YtjnnjciedbgmiaaW.PrintWords
abbrev Y0_0 : Type := Int × Int × Int × Bool
abbrev Y0_1 : Type := Int × Int × Int × Int
abbrev Y0_2 : Ty := .pair (.int .i64) (.pair (.int .i64) (.pair (.int .i64) (.int .i64)))
abbrev Y0_3 : Type := (List Y0_1) → (List Y0_0) → (List Int) → (List Y0_0) → Int → Int → Option ((Bool × Unit) × Unit)
abbrev Y0_4 : Ty := .pair (.int .i64) (.pair (.int .i64) (.pair (.int .i64) .bool))
abbrev Y0_5 : Type := (List Y0_1) → (List (PN Bool 24)) → (List Y0_0) → Int → Int → Option (((List (PN Bool 24)) × Unit) × Unit)
abbrev Y0_6 : Type := (Bool × Unit) × Unit
abbrev Y0_7 : Type := (Int × Unit) × Unit
abbrev Y0_8 : Type := ((List (PN Bool 24)) × Unit) × Unit
abbrev Y0_9 : Type := Int × Int × Int × Bool × Unit
abbrev Y0_10 : Type := ((List Y0_0) × Unit) × Unit
abbrev Y0_11 : Ty := .sl 41 Y0_2
noncomputable abbrev P52 : List PT := [.val ⟨false, (.int .i64), false⟩]
noncomputable abbrev R52 : List RT := [.val ⟨false, .bool, true⟩]
noncomputable def S52 (k : Nat) (a : Int) : Option Y0_6 :=
 (bif decide (a ≥ 0) then
  some ((decide (a < 8), ()), ())
 else
  some ((false, ()), ()))
noncomputable def E52 : Env := tab.env (lk []) (hintL [])
theorem E52_ok : EnvOK Try.prog E52 := envOK_of tabOK _ _ (fun f F h => by cases h)
noncomputable def B52 (k : Nat) : Tbl (RD R52 × MD P52) := .nil
noncomputable def F52 : Fn := ⟨P52, R52, fun k x => S52 k x.1⟩
theorem ok52 : FnOK Try.prog 52 F52 := evalF_ok (E := E52) (T := B52) E52_ok mix Try.func52 rfl (by kernel_rfl) (by kernel_rfl) (fun k => by kernel_rfl) (fun k x => by kernel_rfl)
noncomputable abbrev P53 : List PT := [.val ⟨false, (.int .i64), false⟩, .val ⟨false, (.int .i64), false⟩, .val ⟨false, (.int .i64), false⟩]
noncomputable abbrev R53 : List RT := [.val ⟨false, .bool, true⟩]
noncomputable def S53 (k : Nat) (v : Int) (from_ : Int) (to_ : Int) : Option Y0_6 :=
 (bif decide (v ≥ from_) then
  some ((decide (v ≤ to_), ()), ())
 else
  some ((false, ()), ()))
noncomputable def E53 : Env := tab.env (lk []) (hintL [])
theorem E53_ok : EnvOK Try.prog E53 := envOK_of tabOK _ _ (fun f F h => by cases h)
noncomputable def B53 (k : Nat) : Tbl (RD R53 × MD P53) := .nil
noncomputable def F53 : Fn := ⟨P53, R53, fun k x => S53 k x.1 x.2.1 x.2.2.1⟩
theorem ok53 : FnOK Try.prog 53 F53 := evalF_ok (E := E53) (T := B53) E53_ok mix Try.func53 rfl (by kernel_rfl) (by kernel_rfl) (fun k => by kernel_rfl) (fun k x => by kernel_rfl)
noncomputable abbrev P38 : List PT := [.val ⟨true, Y0_2, false⟩]
noncomputable abbrev R38 : List RT := [.val ⟨false, .bool, true⟩]
noncomputable def S38 (k : Nat) (i : Int × Int × Int × Int) : Option Y0_6 :=
 (bif i.1 == 0 then
  (bif i.2.1 == 0 then
   (bif i.2.2.1 == 0 then
    some ((i.2.2.2 == 0, ()), ())
   else
    some ((false, ()), ()))
  else
   some ((false, ()), ()))
 else
  (bif i.1 == 11 then
   (bif i.2.1 == 0 then
    (bif i.2.2.1 == 0 then
     some ((i.2.2.2 == 0, ()), ())
    else
     some ((false, ()), ()))
   else
    some ((false, ()), ()))
  else
   (bif i.1 == 1 then
    (S52 k i.2.1).bind fun q0 =>
    (bif q0.1.1 then
     (bif i.2.2.1 == 0 then
      (S53 k i.2.2.2 (-2147483648) 2147483647).bind fun q1 =>
      some ((q1.1.1, ()), ())
     else
      some ((false, ()), ()))
    else
     some ((false, ()), ()))
   else
    (bif i.1 == 2 then
     (S52 k i.2.1).bind fun q2 =>
     (bif q2.1.1 then
      (S52 k i.2.2.1).bind fun q3 =>
      (bif q3.1.1 then
       some ((i.2.2.2 == 0, ()), ())
      else
       some ((false, ()), ()))
     else
      some ((false, ()), ()))
    else
     (bif i.1 == 3 then
      (S52 k i.2.1).bind fun q4 =>
      (bif q4.1.1 then
       (S52 k i.2.2.1).bind fun q5 =>
       (bif q5.1.1 then
        some ((i.2.2.2 == 0, ()), ())
       else
        some ((false, ()), ()))
      else
       some ((false, ()), ()))
     else
      (bif i.1 == 4 then
       (S52 k i.2.1).bind fun q6 =>
       (bif q6.1.1 then
        (S52 k i.2.2.1).bind fun q7 =>
        (bif q7.1.1 then
         some ((i.2.2.2 == 0, ()), ())
        else
         some ((false, ()), ()))
       else
        some ((false, ()), ()))
      else
       (bif i.1 == 5 then
        (S52 k i.2.1).bind fun q8 =>
        (bif q8.1.1 then
         (bif i.2.2.1 == 0 then
          (S53 k i.2.2.2 (-63) 63).bind fun q9 =>
          some ((q9.1.1, ()), ())
         else
          some ((false, ()), ()))
        else
         some ((false, ()), ()))
       else
        (bif i.1 == 6 then
         (S52 k i.2.1).bind fun q10 =>
         (bif q10.1.1 then
          (bif i.2.2.1 == 0 then
           (S53 k i.2.2.2 1 64).bind fun q11 =>
           some ((q11.1.1, ()), ())
          else
           some ((false, ()), ()))
         else
          some ((false, ()), ()))
        else
         (bif i.1 == 7 then
          (S52 k i.2.1).bind fun q12 =>
          (bif q12.1.1 then
           (bif i.2.2.1 == 0 then
            (S53 k i.2.2.2 1 24).bind fun q13 =>
            some ((q13.1.1, ()), ())
           else
            some ((false, ()), ()))
          else
           some ((false, ()), ()))
         else
          (bif i.1 == 8 then
           (bif i.2.1 == 0 then
            (S53 k i.2.2.1 1 24).bind fun q14 =>
            (bif q14.1.1 then
             (S53 k i.2.2.2 1 20).bind fun q15 =>
             some ((q15.1.1, ()), ())
            else
             some ((false, ()), ()))
           else
            some ((false, ()), ()))
          else
           (bif i.1 == 9 then
            (S53 k i.2.1 0 3).bind fun q16 =>
            (bif q16.1.1 then
             (bif i.2.2.1 == 0 then
              some ((i.2.2.2 == 0, ()), ())
             else
              some ((false, ()), ()))
            else
             some ((false, ()), ()))
           else
            (bif i.1 == 10 then
             (S53 k i.2.1 0 3).bind fun q17 =>
             (bif q17.1.1 then
              (bif i.2.2.1 == 0 then
               some ((i.2.2.2 == 0, ()), ())
              else
               some ((false, ()), ()))
             else
              some ((false, ()), ()))
            else
             some ((false, ()), ())))))))))))))
noncomputable def E38 : Env := tab.env (lk [(52, F52), (53, F53)]) (hintL [])
theorem E38_ok : EnvOK Try.prog E38 := envOK_of tabOK _ _ (allFn_lk (l := [(52, F52), (53, F53)]) ⟨ok52, ok53, trivial⟩)
noncomputable def B38 (k : Nat) : Tbl (RD R38 × MD P38) := .nil
noncomputable def F38 : Fn := ⟨P38, R38, fun k x => S38 k x.1⟩
theorem ok38 : FnOK Try.prog 38 F38 := evalF_ok (E := E38) (T := B38) E38_ok mix Try.func38 rfl (by kernel_rfl) (by kernel_rfl) (fun k => by kernel_rfl) (fun k x => by kernel_rfl)
noncomputable abbrev P37 : List PT := [.val ⟨true, Y0_2, false⟩]
noncomputable abbrev R37 : List RT := [.val ⟨false, .bool, true⟩]
noncomputable def S37 (k : Nat) (i : Int × Int × Int × Int) : Option Y0_6 :=
 (S38 k i).bind fun q0 =>
 some ((!q0.1.1, ()), ())
noncomputable def E37 : Env := tab.env (lk [(38, F38)]) (hintL [])
theorem E37_ok : EnvOK Try.prog E37 := envOK_of tabOK _ _ (allFn_lk (l := [(38, F38)]) ⟨ok38, trivial⟩)
noncomputable def B37 (k : Nat) : Tbl (RD R37 × MD P37) := .nil
noncomputable def F37 : Fn := ⟨P37, R37, fun k x => S37 k x.1⟩
theorem ok37 : FnOK Try.prog 37 F37 := evalF_ok (E := E37) (T := B37) E37_ok mix Try.func37 rfl (by kernel_rfl) (by kernel_rfl) (fun k => by kernel_rfl) (fun k x => by kernel_rfl)
noncomputable abbrev P39 : List PT := [.val ⟨false, Y0_11, false⟩, .pv (.clo 37 [])]
noncomputable abbrev R39 : List RT := [.val ⟨false, (.int .i64), true⟩]
noncomputable abbrev c39_L2 : Cut := ⟨[0, 1, 7, 8], [.cell Y0_11, .clo 37 [], .cell (.int .i64), .cell (.int .i64)], [], 19⟩
noncomputable def l39_2 (k : Nat) (g2 : (List Y0_1) → Int → Int → Option Y0_7) (s1 : List Y0_1) (t7 : Int) (t8 : Int) : Option Y0_7 :=
 (bif decide (t8 < t7) then
  ix s1 t8 <|
  (S37 k (rd s1 t8 (0, 0, 0, 0))).bind fun q0 =>
  (bif q0.1.1 then
   some ((t8, ()), ())
  else
   g2 s1 t7 (IntKind.i64.wrap (t8 + 1)))
 else
  some (((-1), ()), ()))
noncomputable def b39_2 (k : Nat) (g : ((Unit) × (List Y0_1) × Unit × Int × Int × Unit) → Option Y0_7) (d : (Unit) × (List Y0_1) × Unit × Int × Int × Unit) : Option Y0_7 := l39_2 k (fun s1 t7 t8 => g ((), s1, (), t7, t8, ())) d.2.1 d.2.2.2.1 d.2.2.2.2.1
noncomputable def L39_2 (k : Nat) (j : Nat) (s1 : List Y0_1) (t7 : Int) (t8 : Int) : Option Y0_7 := iter (R := (Int × Unit) × Unit) c39_L2 (b39_2 k) j ((), s1, (), t7, t8, ())
theorem L39_2_s (k : Nat) (j : Nat) (s1 : List Y0_1) (t7 : Int) (t8 : Int) : L39_2 k (j + 1) s1 t7 t8 = l39_2 k (L39_2 k j) s1 t7 t8 := iter_succ _ _ _ _
noncomputable def S39 (k : Nat) (s : List Y0_1) : Option Y0_7 :=
 L39_2 k k s (s.length : Int) 0
noncomputable def E39 : Env := tab.env (lk [(37, F37)]) (hintL [])
theorem E39_ok : EnvOK Try.prog E39 := envOK_of tabOK _ _ (allFn_lk (l := [(37, F37)]) ⟨ok37, trivial⟩)
noncomputable def B39 (k : Nat) : Tbl (RD R39 × MD P39) := (.loop 2 c39_L2 (b39_2 k) (fun g => .nil) .nil)
noncomputable def F39 : Fn := ⟨P39, R39, fun k x => S39 k x.1⟩
theorem ok39 : FnOK Try.prog 39 F39 := evalF_ok (E := E39) (T := B39) E39_ok mix Try.func39 rfl (by kernel_rfl) (by kernel_rfl) (fun k => by kernel_rfl) (fun k x => by kernel_rfl)
noncomputable abbrev P36 : List PT := [.val ⟨false, Y0_11, false⟩, .pv (.clo 37 [])]
noncomputable abbrev R36 : List RT := [.val ⟨false, .bool, true⟩]
noncomputable def S36 (k : Nat) (s : List Y0_1) : Option Y0_6 :=
 (S39 k s).bind fun q0 =>
 some ((decide (q0.1.1 ≥ 0), ()), ())
noncomputable def E36 : Env := tab.env (lk [(39, F39)]) (hintL [])
theorem E36_ok : EnvOK Try.prog E36 := envOK_of tabOK _ _ (allFn_lk (l := [(39, F39)]) ⟨ok39, trivial⟩)
noncomputable def B36 (k : Nat) : Tbl (RD R36 × MD P36) := .nil
noncomputable def F36 : Fn := ⟨P36, R36, fun k x => S36 k x.1⟩
theorem ok36 : FnOK Try.prog 36 F36 := evalF_ok (E := E36) (T := B36) E36_ok mix Try.func36 rfl (by kernel_rfl) (by kernel_rfl) (fun k => by kernel_rfl) (fun k x => by kernel_rfl)
noncomputable abbrev P40 : List PT := [.val ⟨true, Y0_2, false⟩]
noncomputable abbrev R40 : List RT := [.val ⟨false, .bool, true⟩]
noncomputable def S40 (k : Nat) (i : Int × Int × Int × Int) : Option Y0_6 :=
 some ((i.1 == 0, ()), ())
noncomputable def E40 : Env := tab.env (lk []) (hintL [])
theorem E40_ok : EnvOK Try.prog E40 := envOK_of tabOK _ _ (fun f F h => by cases h)
noncomputable def B40 (k : Nat) : Tbl (RD R40 × MD P40) := .nil
noncomputable def F40 : Fn := ⟨P40, R40, fun k x => S40 k x.1⟩
theorem ok40 : FnOK Try.prog 40 F40 := evalF_ok (E := E40) (T := B40) E40_ok mix Try.func40 rfl (by kernel_rfl) (by kernel_rfl) (fun k => by kernel_rfl) (fun k x => by kernel_rfl)
noncomputable abbrev P39a : List PT := [.val ⟨false, Y0_11, false⟩, .pv (.clo 40 [])]
noncomputable abbrev R39a : List RT := [.val ⟨false, (.int .i64), true⟩]
noncomputable abbrev c39a_L2 : Cut := ⟨[0, 1, 7, 8], [.cell Y0_11, .clo 40 [], .cell (.int .i64), .cell (.int .i64)], [], 19⟩
noncomputable def l39a_2 (k : Nat) (g2 : (List Y0_1) → Int → Int → Option Y0_7) (s1 : List Y0_1) (t7 : Int) (t8 : Int) : Option Y0_7 :=
 (bif decide (t8 < t7) then
  ix s1 t8 <|
  (S40 k (rd s1 t8 (0, 0, 0, 0))).bind fun q0 =>
  (bif q0.1.1 then
   some ((t8, ()), ())
  else
   g2 s1 t7 (IntKind.i64.wrap (t8 + 1)))
 else
  some (((-1), ()), ()))
noncomputable def b39a_2 (k : Nat) (g : ((Unit) × (List Y0_1) × Unit × Int × Int × Unit) → Option Y0_7) (d : (Unit) × (List Y0_1) × Unit × Int × Int × Unit) : Option Y0_7 := l39a_2 k (fun s1 t7 t8 => g ((), s1, (), t7, t8, ())) d.2.1 d.2.2.2.1 d.2.2.2.2.1
noncomputable def L39a_2 (k : Nat) (j : Nat) (s1 : List Y0_1) (t7 : Int) (t8 : Int) : Option Y0_7 := iter (R := (Int × Unit) × Unit) c39a_L2 (b39a_2 k) j ((), s1, (), t7, t8, ())
theorem L39a_2_s (k : Nat) (j : Nat) (s1 : List Y0_1) (t7 : Int) (t8 : Int) : L39a_2 k (j + 1) s1 t7 t8 = l39a_2 k (L39a_2 k j) s1 t7 t8 := iter_succ _ _ _ _
noncomputable def S39a (k : Nat) (s : List Y0_1) : Option Y0_7 :=
 L39a_2 k k s (s.length : Int) 0
noncomputable def E39a : Env := tab.env (lk [(40, F40)]) (hintL [])
theorem E39a_ok : EnvOK Try.prog E39a := envOK_of tabOK _ _ (allFn_lk (l := [(40, F40)]) ⟨ok40, trivial⟩)
noncomputable def B39a (k : Nat) : Tbl (RD R39a × MD P39a) := (.loop 2 c39a_L2 (b39a_2 k) (fun g => .nil) .nil)
noncomputable def F39a : Fn := ⟨P39a, R39a, fun k x => S39a k x.1⟩
theorem ok39a : FnOK Try.prog 39 F39a := evalF_ok (E := E39a) (T := B39a) E39a_ok mix Try.func39 rfl (by kernel_rfl) (by kernel_rfl) (fun k => by kernel_rfl) (fun k x => by kernel_rfl)
noncomputable abbrev P54 : List PT := [.val ⟨false, Y0_11, false⟩]
noncomputable abbrev R54 : List RT := [.val ⟨false, (.sl 91 Y0_4), true⟩]
noncomputable abbrev c54_L2 : Cut := ⟨[2, 5, 6, 7], [.own 91 Y0_4, .cell Y0_11, .cell (.int .i64), .cell (.int .i64)], [], 42⟩
noncomputable def l54_2 (k : Nat) (g2 : (List Y0_0) → (List Y0_1) → Int → Int → Option Y0_10) (out : List Y0_0) (t5 : List Y0_1) (t6 : Int) (t7 : Int) : Option Y0_10 :=
 (bif decide (t7 < t6) then
  ix t5 t7 <|
  (bif (rd t5 t7 (0, 0, 0, 0)).1 == 8 then
   ap out ([(IntKind.i64.wrap (t7 + 1), IntKind.i64.wrap (t7 + (rd t5 t7 (0, 0, 0, 0)).2.2.1), t7, true)] : List Y0_0) 32 fun r0 =>
   g2 r0 t5 t6 (IntKind.i64.wrap (t7 + 1))
  else
   (bif (rd t5 t7 (0, 0, 0, 0)).1 == 7 then
    ap out ([(IntKind.i64.wrap (t7 + 1), IntKind.i64.wrap (t7 + (rd t5 t7 (0, 0, 0, 0)).2.2.2), t7, false)] : List Y0_0) 32 fun r1 =>
    g2 r1 t5 t6 (IntKind.i64.wrap (t7 + 1))
   else
    g2 out t5 t6 (IntKind.i64.wrap (t7 + 1))))
 else
  some ((out, ()), ()))
noncomputable def b54_2 (k : Nat) (g : ((Unit) × (List Y0_0) × (List Y0_1) × Int × Int × Unit) → Option Y0_10) (d : (Unit) × (List Y0_0) × (List Y0_1) × Int × Int × Unit) : Option Y0_10 := l54_2 k (fun out t5 t6 t7 => g ((), out, t5, t6, t7, ())) d.2.1 d.2.2.1 d.2.2.2.1 d.2.2.2.2.1
noncomputable def L54_2 (k : Nat) (j : Nat) (out : List Y0_0) (t5 : List Y0_1) (t6 : Int) (t7 : Int) : Option Y0_10 := iter (R := ((List Y0_0) × Unit) × Unit) c54_L2 (b54_2 k) j ((), out, t5, t6, t7, ())
theorem L54_2_s (k : Nat) (j : Nat) (out : List Y0_0) (t5 : List Y0_1) (t6 : Int) (t7 : Int) : L54_2 k (j + 1) out t5 t6 t7 = l54_2 k (L54_2 k j) out t5 t6 t7 := iter_succ _ _ _ _
noncomputable def S54 (k : Nat) (l_ : List Y0_1) : Option Y0_10 :=
 L54_2 k k ([] : List Y0_0) l_ (l_.length : Int) 0
noncomputable def E54 : Env := tab.env (lk []) (hintL [(2, 2)])
theorem E54_ok : EnvOK Try.prog E54 := envOK_of tabOK _ _ (fun f F h => by cases h)
noncomputable def B54 (k : Nat) : Tbl (RD R54 × MD P54) := (.loop 2 c54_L2 (b54_2 k) (fun g => .nil) .nil)
noncomputable def F54 : Fn := ⟨P54, R54, fun k x => S54 k x.1⟩
theorem ok54 : FnOK Try.prog 54 F54 := evalF_ok (E := E54) (T := B54) E54_ok mix Try.func54 rfl (by kernel_rfl) (by kernel_rfl) (fun k => by kernel_rfl) (fun k x => by kernel_rfl)
noncomputable abbrev P55 : List PT := [.val ⟨true, Y0_4, false⟩, .val ⟨false, (.int .i64), false⟩]
noncomputable abbrev R55 : List RT := [.val ⟨false, .bool, true⟩]
noncomputable def S55 (k : Nat) (p : Int × Int × Int × Bool) (i : Int) : Option Y0_6 :=
 (bif decide (i ≥ p.1) then
  some ((decide (i ≤ p.2.1), ()), ())
 else
  some ((false, ()), ()))
noncomputable def E55 : Env := tab.env (lk []) (hintL [])
theorem E55_ok : EnvOK Try.prog E55 := envOK_of tabOK _ _ (fun f F h => by cases h)
noncomputable def B55 (k : Nat) : Tbl (RD R55 × MD P55) := .nil
noncomputable def F55 : Fn := ⟨P55, R55, fun k x => S55 k x.1 x.2.1⟩
theorem ok55 : FnOK Try.prog 55 F55 := evalF_ok (E := E55) (T := B55) E55_ok mix Try.func55 rfl (by kernel_rfl) (by kernel_rfl) (fun k => by kernel_rfl) (fun k x => by kernel_rfl)
noncomputable abbrev P56 : List PT := [.val ⟨true, Y0_4, false⟩, .val ⟨true, Y0_4, false⟩]
noncomputable abbrev R56 : List RT := [.val ⟨false, .bool, true⟩]
noncomputable def S56 (k : Nat) (p : Int × Int × Int × Bool) (q_ : Int × Int × Int × Bool) : Option Y0_6 :=
 (S55 k q_ p.1).bind fun q0 =>
 (bif q0.1.1 then
  (S55 k q_ p.2.1).bind fun q1 =>
  some ((q1.1.1, ()), ())
 else
  some ((false, ()), ()))
noncomputable def E56 : Env := tab.env (lk [(55, F55)]) (hintL [])
theorem E56_ok : EnvOK Try.prog E56 := envOK_of tabOK _ _ (allFn_lk (l := [(55, F55)]) ⟨ok55, trivial⟩)
noncomputable def B56 (k : Nat) : Tbl (RD R56 × MD P56) := .nil
noncomputable def F56 : Fn := ⟨P56, R56, fun k x => S56 k x.1 x.2.1⟩
theorem ok56 : FnOK Try.prog 56 F56 := evalF_ok (E := E56) (T := B56) E56_ok mix Try.func56 rfl (by kernel_rfl) (by kernel_rfl) (fun k => by kernel_rfl) (fun k x => by kernel_rfl)
noncomputable abbrev P57 : List PT := [.val ⟨true, Y0_4, false⟩, .val ⟨true, Y0_4, false⟩]
noncomputable abbrev R57 : List RT := [.val ⟨false, .bool, true⟩]
noncomputable def S57 (k : Nat) (p : Int × Int × Int × Bool) (q_ : Int × Int × Int × Bool) : Option Y0_6 :=
 (bif decide (p.2.1 < q_.1) then
  some ((true, ()), ())
 else
  some ((decide (q_.2.1 < p.1), ()), ()))
noncomputable def E57 : Env := tab.env (lk []) (hintL [])
theorem E57_ok : EnvOK Try.prog E57 := envOK_of tabOK _ _ (fun f F h => by cases h)
noncomputable def B57 (k : Nat) : Tbl (RD R57 × MD P57) := .nil
noncomputable def F57 : Fn := ⟨P57, R57, fun k x => S57 k x.1 x.2.1⟩
theorem ok57 : FnOK Try.prog 57 F57 := evalF_ok (E := E57) (T := B57) E57_ok mix Try.func57 rfl (by kernel_rfl) (by kernel_rfl) (fun k => by kernel_rfl) (fun k x => by kernel_rfl)
noncomputable abbrev P58 : List PT := [.val ⟨false, (.int .i64), false⟩]
noncomputable abbrev R58 : List RT := [.val ⟨false, .bool, true⟩]
noncomputable def S58 (k : Nat) (n : Int) : Option Y0_6 :=
 some ((decide (n > 2), ()), ())
noncomputable def E58 : Env := tab.env (lk []) (hintL [])
theorem E58_ok : EnvOK Try.prog E58 := envOK_of tabOK _ _ (fun f F h => by cases h)
noncomputable def B58 (k : Nat) : Tbl (RD R58 × MD P58) := .nil
noncomputable def F58 : Fn := ⟨P58, R58, fun k x => S58 k x.1⟩
theorem ok58 : FnOK Try.prog 58 F58 := evalF_ok (E := E58) (T := B58) E58_ok mix Try.func58 rfl (by kernel_rfl) (by kernel_rfl) (fun k => by kernel_rfl) (fun k x => by kernel_rfl)
noncomputable abbrev P59 : List PT := [.val ⟨false, (.sl 3 (.int .i64)), false⟩, .pv (.clo 58 [])]
noncomputable abbrev R59 : List RT := [.val ⟨false, (.int .i64), true⟩]
noncomputable abbrev c59_L2 : Cut := ⟨[0, 1, 7, 8], [.cell (.sl 3 (.int .i64)), .clo 58 [], .cell (.int .i64), .cell (.int .i64)], [], 19⟩
noncomputable def l59_2 (k : Nat) (g2 : (List Int) → Int → Int → Option Y0_7) (s1 : List Int) (t7 : Int) (t8 : Int) : Option Y0_7 :=
 (bif decide (t8 < t7) then
  ix s1 t8 <|
  (S58 k (rd s1 t8 0)).bind fun q0 =>
  (bif q0.1.1 then
   some ((t8, ()), ())
  else
   g2 s1 t7 (IntKind.i64.wrap (t8 + 1)))
 else
  some (((-1), ()), ()))
noncomputable def b59_2 (k : Nat) (g : ((Unit) × (List Int) × Unit × Int × Int × Unit) → Option Y0_7) (d : (Unit) × (List Int) × Unit × Int × Int × Unit) : Option Y0_7 := l59_2 k (fun s1 t7 t8 => g ((), s1, (), t7, t8, ())) d.2.1 d.2.2.2.1 d.2.2.2.2.1
noncomputable def L59_2 (k : Nat) (j : Nat) (s1 : List Int) (t7 : Int) (t8 : Int) : Option Y0_7 := iter (R := (Int × Unit) × Unit) c59_L2 (b59_2 k) j ((), s1, (), t7, t8, ())
theorem L59_2_s (k : Nat) (j : Nat) (s1 : List Int) (t7 : Int) (t8 : Int) : L59_2 k (j + 1) s1 t7 t8 = l59_2 k (L59_2 k j) s1 t7 t8 := iter_succ _ _ _ _
noncomputable def S59 (k : Nat) (s : List Int) : Option Y0_7 :=
 L59_2 k k s (s.length : Int) 0
noncomputable def E59 : Env := tab.env (lk [(58, F58)]) (hintL [])
theorem E59_ok : EnvOK Try.prog E59 := envOK_of tabOK _ _ (allFn_lk (l := [(58, F58)]) ⟨ok58, trivial⟩)
noncomputable def B59 (k : Nat) : Tbl (RD R59 × MD P59) := (.loop 2 c59_L2 (b59_2 k) (fun g => .nil) .nil)
noncomputable def F59 : Fn := ⟨P59, R59, fun k x => S59 k x.1⟩
theorem ok59 : FnOK Try.prog 59 F59 := evalF_ok (E := E59) (T := B59) E59_ok mix Try.func59 rfl (by kernel_rfl) (by kernel_rfl) (fun k => by kernel_rfl) (fun k x => by kernel_rfl)
noncomputable abbrev P43 : List PT := [.val ⟨false, (.sl 3 (.int .i64)), false⟩, .pv (.clo 58 [])]
noncomputable abbrev R43 : List RT := [.val ⟨false, .bool, true⟩]
noncomputable def S43 (k : Nat) (s : List Int) : Option Y0_6 :=
 (S59 k s).bind fun q0 =>
 some ((decide (q0.1.1 ≥ 0), ()), ())
noncomputable def E43 : Env := tab.env (lk [(59, F59)]) (hintL [])
theorem E43_ok : EnvOK Try.prog E43 := envOK_of tabOK _ _ (allFn_lk (l := [(59, F59)]) ⟨ok59, trivial⟩)
noncomputable def B43 (k : Nat) : Tbl (RD R43 × MD P43) := .nil
noncomputable def F43 : Fn := ⟨P43, R43, fun k x => S43 k x.1⟩
theorem ok43 : FnOK Try.prog 43 F43 := evalF_ok (E := E43) (T := B43) E43_ok mix Try.func43 rfl (by kernel_rfl) (by kernel_rfl) (fun k => by kernel_rfl) (fun k x => by kernel_rfl)
noncomputable abbrev P41 : List PT := [.val ⟨false, Y0_11, false⟩]
noncomputable abbrev R41 : List RT := [.val ⟨false, .bool, true⟩]
noncomputable abbrev c41_L15 : Cut := ⟨[0, 3, 4, 6, 9, 15, 16, 17], [.cell Y0_11, .cell (.sl 91 Y0_4), .own 3 (.int .i64), .box 91 [.cell (.int .i64), .cell (.int .i64), .cell (.int .i64), .cell .bool], .cell (.int .i64), .cell (.sl 91 Y0_4), .cell (.int .i64), .cell (.int .i64)], [], 84⟩
noncomputable def l41_15 (k : Nat) (g4 : Y0_3) (g15 : (List Y0_1) → (List Y0_0) → (List Int) → Int → Int → Int → Bool → Int → (List Y0_0) → Int → Int → Option Y0_6) (l_3 : List Y0_1) (all2 : List Y0_0) (around2 : List Int) (p4 : Int) (p5 : Int) (p6 : Int) (p7 : Bool) (i : Int) (t15_2 : List Y0_0) (t16_2 : Int) (t17_2 : Int) : Option Y0_6 :=
 (bif p7 then
  (bif decide (i ≤ p5) then
   ix around2 i <|
   ix around2 i <|
   g15 l_3 all2 (upd around2 i (IntKind.i64.wrap ((rd around2 i 0) + 1))) p4 p5 p6 p7 (IntKind.i64.wrap (i + 1)) t15_2 t16_2 t17_2
  else
   g4 l_3 all2 around2 t15_2 t16_2 (IntKind.i64.wrap (t17_2 + 1)))
 else
  g4 l_3 all2 around2 t15_2 t16_2 (IntKind.i64.wrap (t17_2 + 1)))
noncomputable def b41_15 (k : Nat) (g4 : Y0_3) (g : ((Unit) × (List Y0_1) × (List Y0_0) × (List Int) × Y0_9 × Int × (List Y0_0) × Int × Int × Unit) → Option Y0_6) (d : (Unit) × (List Y0_1) × (List Y0_0) × (List Int) × Y0_9 × Int × (List Y0_0) × Int × Int × Unit) : Option Y0_6 := l41_15 k g4 (fun l_3 all2 around2 p4 p5 p6 p7 i t15_2 t16_2 t17_2 => g ((), l_3, all2, around2, (p4, p5, p6, p7, ()), i, t15_2, t16_2, t17_2, ())) d.2.1 d.2.2.1 d.2.2.2.1 d.2.2.2.2.1.1 d.2.2.2.2.1.2.1 d.2.2.2.2.1.2.2.1 d.2.2.2.2.1.2.2.2.1 d.2.2.2.2.2.1 d.2.2.2.2.2.2.1 d.2.2.2.2.2.2.2.1 d.2.2.2.2.2.2.2.2.1
noncomputable def L41_15 (k : Nat) (g4 : Y0_3) (j : Nat) (l_3 : List Y0_1) (all2 : List Y0_0) (around2 : List Int) (p4 : Int) (p5 : Int) (p6 : Int) (p7 : Bool) (i : Int) (t15_2 : List Y0_0) (t16_2 : Int) (t17_2 : Int) : Option Y0_6 := iter (R := (Bool × Unit) × Unit) c41_L15 (b41_15 k g4) j ((), l_3, all2, around2, (p4, p5, p6, p7, ()), i, t15_2, t16_2, t17_2, ())
theorem L41_15_s (k : Nat) (g4 : Y0_3) (j : Nat) (l_3 : List Y0_1) (all2 : List Y0_0) (around2 : List Int) (p4 : Int) (p5 : Int) (p6 : Int) (p7 : Bool) (i : Int) (t15_2 : List Y0_0) (t16_2 : Int) (t17_2 : Int) : L41_15 k g4 (j + 1) l_3 all2 around2 p4 p5 p6 p7 i t15_2 t16_2 t17_2 = l41_15 k g4 (L41_15 k g4 j) l_3 all2 around2 p4 p5 p6 p7 i t15_2 t16_2 t17_2 := iter_succ _ _ _ _
noncomputable abbrev c41_L9 : Cut := ⟨[0, 3, 4, 6, 15, 16, 17, 27, 28, 29], [.cell Y0_11, .cell (.sl 91 Y0_4), .own 3 (.int .i64), .box 91 [.cell (.int .i64), .cell (.int .i64), .cell (.int .i64), .cell .bool], .cell (.sl 91 Y0_4), .cell (.int .i64), .cell (.int .i64), .cell (.sl 91 Y0_4), .cell (.int .i64), .cell (.int .i64)], [], 84⟩
noncomputable def l41_9 (k : Nat) (g4 : Y0_3) (g9 : (List Y0_1) → (List Y0_0) → (List Int) → Int → Int → Int → Bool → (List Y0_0) → Int → Int → (List Y0_0) → Int → Int → Option Y0_6) (l_2 : List Y0_1) (all1 : List Y0_0) (around1 : List Int) (p : Int) (p1 : Int) (p2 : Int) (p3 : Bool) (t15_1 : List Y0_0) (t16_1 : Int) (t17_1 : Int) (t27 : List Y0_0) (t28 : Int) (t29 : Int) : Option Y0_6 :=
 (bif decide (t29 < t28) then
  ix t27 t29 <|
  (S55 k (rd t27 t29 (0, 0, 0, false)) p2).bind fun q1 =>
  (bif q1.1.1 then
   (S56 k (p, p1, p2, p3) (rd t27 t29 (0, 0, 0, false))).bind fun q2 =>
   (bif !q2.1.1 then
    some ((false, ()), ())
   else
    (S57 k (p, p1, p2, p3) (rd t27 t29 (0, 0, 0, false))).bind fun q3 =>
    (bif !q3.1.1 then
     (S56 k (p, p1, p2, p3) (rd t27 t29 (0, 0, 0, false))).bind fun q4 =>
     (bif !q4.1.1 then
      (S56 k (rd t27 t29 (0, 0, 0, false)) (p, p1, p2, p3)).bind fun q5 =>
      (bif !q5.1.1 then
       some ((false, ()), ())
      else
       g9 l_2 all1 around1 p p1 p2 p3 t15_1 t16_1 t17_1 t27 t28 (IntKind.i64.wrap (t29 + 1)))
     else
      g9 l_2 all1 around1 p p1 p2 p3 t15_1 t16_1 t17_1 t27 t28 (IntKind.i64.wrap (t29 + 1)))
    else
     g9 l_2 all1 around1 p p1 p2 p3 t15_1 t16_1 t17_1 t27 t28 (IntKind.i64.wrap (t29 + 1))))
  else
   (S57 k (p, p1, p2, p3) (rd t27 t29 (0, 0, 0, false))).bind fun q6 =>
   (bif !q6.1.1 then
    (S56 k (p, p1, p2, p3) (rd t27 t29 (0, 0, 0, false))).bind fun q7 =>
    (bif !q7.1.1 then
     (S56 k (rd t27 t29 (0, 0, 0, false)) (p, p1, p2, p3)).bind fun q8 =>
     (bif !q8.1.1 then
      some ((false, ()), ())
     else
      g9 l_2 all1 around1 p p1 p2 p3 t15_1 t16_1 t17_1 t27 t28 (IntKind.i64.wrap (t29 + 1)))
    else
     g9 l_2 all1 around1 p p1 p2 p3 t15_1 t16_1 t17_1 t27 t28 (IntKind.i64.wrap (t29 + 1)))
   else
    g9 l_2 all1 around1 p p1 p2 p3 t15_1 t16_1 t17_1 t27 t28 (IntKind.i64.wrap (t29 + 1))))
 else
  L41_15 k g4 k l_2 all1 around1 p p1 p2 p3 p t15_1 t16_1 t17_1)
noncomputable def b41_9 (k : Nat) (g4 : Y0_3) (g : ((Unit) × (List Y0_1) × (List Y0_0) × (List Int) × Y0_9 × (List Y0_0) × Int × Int × (List Y0_0) × Int × Int × Unit) → Option Y0_6) (d : (Unit) × (List Y0_1) × (List Y0_0) × (List Int) × Y0_9 × (List Y0_0) × Int × Int × (List Y0_0) × Int × Int × Unit) : Option Y0_6 := l41_9 k g4 (fun l_2 all1 around1 p p1 p2 p3 t15_1 t16_1 t17_1 t27 t28 t29 => g ((), l_2, all1, around1, (p, p1, p2, p3, ()), t15_1, t16_1, t17_1, t27, t28, t29, ())) d.2.1 d.2.2.1 d.2.2.2.1 d.2.2.2.2.1.1 d.2.2.2.2.1.2.1 d.2.2.2.2.1.2.2.1 d.2.2.2.2.1.2.2.2.1 d.2.2.2.2.2.1 d.2.2.2.2.2.2.1 d.2.2.2.2.2.2.2.1 d.2.2.2.2.2.2.2.2.1 d.2.2.2.2.2.2.2.2.2.1 d.2.2.2.2.2.2.2.2.2.2.1
noncomputable def L41_9 (k : Nat) (g4 : Y0_3) (j : Nat) (l_2 : List Y0_1) (all1 : List Y0_0) (around1 : List Int) (p : Int) (p1 : Int) (p2 : Int) (p3 : Bool) (t15_1 : List Y0_0) (t16_1 : Int) (t17_1 : Int) (t27 : List Y0_0) (t28 : Int) (t29 : Int) : Option Y0_6 := iter (R := (Bool × Unit) × Unit) c41_L9 (b41_9 k g4) j ((), l_2, all1, around1, (p, p1, p2, p3, ()), t15_1, t16_1, t17_1, t27, t28, t29, ())
theorem L41_9_s (k : Nat) (g4 : Y0_3) (j : Nat) (l_2 : List Y0_1) (all1 : List Y0_0) (around1 : List Int) (p : Int) (p1 : Int) (p2 : Int) (p3 : Bool) (t15_1 : List Y0_0) (t16_1 : Int) (t17_1 : Int) (t27 : List Y0_0) (t28 : Int) (t29 : Int) : L41_9 k g4 (j + 1) l_2 all1 around1 p p1 p2 p3 t15_1 t16_1 t17_1 t27 t28 t29 = l41_9 k g4 (L41_9 k g4 j) l_2 all1 around1 p p1 p2 p3 t15_1 t16_1 t17_1 t27 t28 t29 := iter_succ _ _ _ _
noncomputable abbrev c41_L4 : Cut := ⟨[0, 3, 4, 15, 16, 17], [.cell Y0_11, .cell (.sl 91 Y0_4), .own 3 (.int .i64), .cell (.sl 91 Y0_4), .cell (.int .i64), .cell (.int .i64)], [], 84⟩
noncomputable def l41_4 (k : Nat) (g4 : Y0_3) (l_1 : List Y0_1) (all : List Y0_0) (around : List Int) (t15 : List Y0_0) (t16 : Int) (t17 : Int) : Option Y0_6 :=
 (bif decide (t17 < t16) then
  ix t15 t17 <|
  (bif decide ((rd t15 t17 (0, 0, 0, false)).2.1 ≥ (IntKind.i64.wrap ((l_1.length : Int) - 1))) then
   some ((false, ()), ())
  else
   L41_9 k g4 k l_1 all around (rd t15 t17 (0, 0, 0, false)).1 (rd t15 t17 (0, 0, 0, false)).2.1 (rd t15 t17 (0, 0, 0, false)).2.2.1 (rd t15 t17 (0, 0, 0, false)).2.2.2 t15 t16 t17 all (all.length : Int) 0)
 else
  (S43 k around).bind fun q9 =>
  some ((!q9.1.1, ()), ()))
noncomputable def b41_4 (k : Nat) (g : ((Unit) × (List Y0_1) × (List Y0_0) × (List Int) × (List Y0_0) × Int × Int × Unit) → Option Y0_6) (d : (Unit) × (List Y0_1) × (List Y0_0) × (List Int) × (List Y0_0) × Int × Int × Unit) : Option Y0_6 := l41_4 k (fun l_1 all around t15 t16 t17 => g ((), l_1, all, around, t15, t16, t17, ())) d.2.1 d.2.2.1 d.2.2.2.1 d.2.2.2.2.1 d.2.2.2.2.2.1 d.2.2.2.2.2.2.1
noncomputable def L41_4 (k : Nat) (j : Nat) (l_1 : List Y0_1) (all : List Y0_0) (around : List Int) (t15 : List Y0_0) (t16 : Int) (t17 : Int) : Option Y0_6 := iter (R := (Bool × Unit) × Unit) c41_L4 (b41_4 k) j ((), l_1, all, around, t15, t16, t17, ())
theorem L41_4_s (k : Nat) (j : Nat) (l_1 : List Y0_1) (all : List Y0_0) (around : List Int) (t15 : List Y0_0) (t16 : Int) (t17 : Int) : L41_4 k (j + 1) l_1 all around t15 t16 t17 = l41_4 k (L41_4 k j) l_1 all around t15 t16 t17 := iter_succ _ _ _ _
noncomputable def S41 (k : Nat) (l_ : List Y0_1) : Option Y0_6 :=
 (S54 k l_).bind fun q0 =>
 mk (l_.length : Int) (l_.length : Int) 8 <|
 L41_4 k k l_ q0.1.1 (List.replicate (l_.length : Int).toNat (0 : Int)) q0.1.1 (q0.1.1.length : Int) 0
noncomputable def E41 : Env := tab.env (lk [(43, F43), (54, F54), (55, F55), (56, F56), (57, F57)]) (hintL [])
theorem E41_ok : EnvOK Try.prog E41 := envOK_of tabOK _ _ (allFn_lk (l := [(43, F43), (54, F54), (55, F55), (56, F56), (57, F57)]) ⟨ok43, ok54, ok55, ok56, ok57, trivial⟩)
noncomputable def B41 (k : Nat) : Tbl (RD R41 × MD P41) := (.loop 4 c41_L4 (b41_4 k) (fun g => (fun (g4 : Y0_3) => (.loop 15 c41_L15 (b41_15 k g4) (fun g => .nil) (.loop 9 c41_L9 (b41_9 k g4) (fun g => .nil) .nil))) (fun l_1 all around t15 t16 t17 => g ((), l_1, all, around, t15, t16, t17, ()))) .nil)
noncomputable def F41 : Fn := ⟨P41, R41, fun k x => S41 k x.1⟩
theorem ok41 : FnOK Try.prog 41 F41 := evalF_ok (E := E41) (T := B41) E41_ok mix Try.func41 rfl (by kernel_rfl) (by kernel_rfl) (fun k => by kernel_rfl) (fun k x => by kernel_rfl)
noncomputable abbrev P42 : List PT := [.val ⟨false, Y0_11, false⟩]
noncomputable abbrev R42 : List RT := [.val ⟨false, (.sl 76 (arrT 24 .bool)), true⟩]
noncomputable abbrev c42_L6 : Cut := ⟨[0, 3, 4, 5, 11, 12, 13, 19, 20], [.cell Y0_11, .own 76 (arrT 24 .bool), .cell (.int .i64), .box 91 [.cell (.int .i64), .cell (.int .i64), .cell (.int .i64), .cell .bool], .own 91 Y0_4, .cell (.int .i64), .cell (.int .i64), .cell (.int .i64), .cell (.int .i64)], [], 38⟩
noncomputable def l42_6 (k : Nat) (g3 : Y0_5) (g6 : (List Y0_1) → (List (PN Bool 24)) → Int → Int → Int → Int → Bool → (List Y0_0) → Int → Int → Int → Int → Option Y0_8) (l_2 : List Y0_1) (out1 : List (PN Bool 24)) (n : Int) (p : Int) (p1 : Int) (p2 : Int) (p3 : Bool) (t11_1 : List Y0_0) (t12_1 : Int) (t13_1 : Int) (t19 : Int) (t20 : Int) : Option Y0_8 :=
 (bif decide (t20 < t19) then
  (bif decide (n < 24) then
   (S55 k (p, p1, p2, p3) t20).bind fun q1 =>
   (bif q1.1.1 then
    ix out1 t20 <|
    ax 24 n <|
    g6 l_2 (upd out1 t20 (aset (α := Bool) 24 (rd out1 t20 (prep (α := Bool) 24 false)) n true)) n p p1 p2 p3 t11_1 t12_1 t13_1 t19 (IntKind.i64.wrap (t20 + 1))
   else
    g6 l_2 out1 n p p1 p2 p3 t11_1 t12_1 t13_1 t19 (IntKind.i64.wrap (t20 + 1)))
  else
   g6 l_2 out1 n p p1 p2 p3 t11_1 t12_1 t13_1 t19 (IntKind.i64.wrap (t20 + 1)))
 else
  g3 l_2 out1 t11_1 t12_1 (IntKind.i64.wrap (t13_1 + 1)))
noncomputable def b42_6 (k : Nat) (g3 : Y0_5) (g : ((Unit) × (List Y0_1) × (List (PN Bool 24)) × Int × Y0_9 × (List Y0_0) × Int × Int × Int × Int × Unit) → Option Y0_8) (d : (Unit) × (List Y0_1) × (List (PN Bool 24)) × Int × Y0_9 × (List Y0_0) × Int × Int × Int × Int × Unit) : Option Y0_8 := l42_6 k g3 (fun l_2 out1 n p p1 p2 p3 t11_1 t12_1 t13_1 t19 t20 => g ((), l_2, out1, n, (p, p1, p2, p3, ()), t11_1, t12_1, t13_1, t19, t20, ())) d.2.1 d.2.2.1 d.2.2.2.1 d.2.2.2.2.1.1 d.2.2.2.2.1.2.1 d.2.2.2.2.1.2.2.1 d.2.2.2.2.1.2.2.2.1 d.2.2.2.2.2.1 d.2.2.2.2.2.2.1 d.2.2.2.2.2.2.2.1 d.2.2.2.2.2.2.2.2.1 d.2.2.2.2.2.2.2.2.2.1
noncomputable def L42_6 (k : Nat) (g3 : Y0_5) (j : Nat) (l_2 : List Y0_1) (out1 : List (PN Bool 24)) (n : Int) (p : Int) (p1 : Int) (p2 : Int) (p3 : Bool) (t11_1 : List Y0_0) (t12_1 : Int) (t13_1 : Int) (t19 : Int) (t20 : Int) : Option Y0_8 := iter (R := ((List (PN Bool 24)) × Unit) × Unit) c42_L6 (b42_6 k g3) j ((), l_2, out1, n, (p, p1, p2, p3, ()), t11_1, t12_1, t13_1, t19, t20, ())
theorem L42_6_s (k : Nat) (g3 : Y0_5) (j : Nat) (l_2 : List Y0_1) (out1 : List (PN Bool 24)) (n : Int) (p : Int) (p1 : Int) (p2 : Int) (p3 : Bool) (t11_1 : List Y0_0) (t12_1 : Int) (t13_1 : Int) (t19 : Int) (t20 : Int) : L42_6 k g3 (j + 1) l_2 out1 n p p1 p2 p3 t11_1 t12_1 t13_1 t19 t20 = l42_6 k g3 (L42_6 k g3 j) l_2 out1 n p p1 p2 p3 t11_1 t12_1 t13_1 t19 t20 := iter_succ _ _ _ _
noncomputable abbrev c42_L3 : Cut := ⟨[0, 3, 11, 12, 13], [.cell Y0_11, .own 76 (arrT 24 .bool), .own 91 Y0_4, .cell (.int .i64), .cell (.int .i64)], [], 38⟩
noncomputable def l42_3 (k : Nat) (g3 : Y0_5) (l_1 : List Y0_1) (out : List (PN Bool 24)) (t11 : List Y0_0) (t12 : Int) (t13 : Int) : Option Y0_8 :=
 (bif decide (t13 < t12) then
  ix t11 t13 <|
  L42_6 k g3 k l_1 out t13 (rd t11 t13 (0, 0, 0, false)).1 (rd t11 t13 (0, 0, 0, false)).2.1 (rd t11 t13 (0, 0, 0, false)).2.2.1 (rd t11 t13 (0, 0, 0, false)).2.2.2 t11 t12 t13 (l_1.length : Int) 0
 else
  some ((out, ()), ()))
noncomputable def b42_3 (k : Nat) (g : ((Unit) × (List Y0_1) × (List (PN Bool 24)) × (List Y0_0) × Int × Int × Unit) → Option Y0_8) (d : (Unit) × (List Y0_1) × (List (PN Bool 24)) × (List Y0_0) × Int × Int × Unit) : Option Y0_8 := l42_3 k (fun l_1 out t11 t12 t13 => g ((), l_1, out, t11, t12, t13, ())) d.2.1 d.2.2.1 d.2.2.2.1 d.2.2.2.2.1 d.2.2.2.2.2.1
noncomputable def L42_3 (k : Nat) (j : Nat) (l_1 : List Y0_1) (out : List (PN Bool 24)) (t11 : List Y0_0) (t12 : Int) (t13 : Int) : Option Y0_8 := iter (R := ((List (PN Bool 24)) × Unit) × Unit) c42_L3 (b42_3 k) j ((), l_1, out, t11, t12, t13, ())
theorem L42_3_s (k : Nat) (j : Nat) (l_1 : List Y0_1) (out : List (PN Bool 24)) (t11 : List Y0_0) (t12 : Int) (t13 : Int) : L42_3 k (j + 1) l_1 out t11 t12 t13 = l42_3 k (L42_3 k j) l_1 out t11 t12 t13 := iter_succ _ _ _ _
noncomputable def S42 (k : Nat) (l_ : List Y0_1) : Option Y0_8 :=
 mk (l_.length : Int) (l_.length : Int) 24 <|
 (S54 k l_).bind fun q0 =>
 L42_3 k k l_ (List.replicate (l_.length : Int).toNat (prep (α := Bool) 24 false : PN Bool 24)) q0.1.1 (q0.1.1.length : Int) 0
noncomputable def E42 : Env := tab.env (lk [(54, F54), (55, F55)]) (hintL [])
theorem E42_ok : EnvOK Try.prog E42 := envOK_of tabOK _ _ (allFn_lk (l := [(54, F54), (55, F55)]) ⟨ok54, ok55, trivial⟩)
noncomputable def B42 (k : Nat) : Tbl (RD R42 × MD P42) := (.loop 3 c42_L3 (b42_3 k) (fun g => (fun (g3 : Y0_5) => (.loop 6 c42_L6 (b42_6 k g3) (fun g => .nil) .nil)) (fun l_1 out t11 t12 t13 => g ((), l_1, out, t11, t12, t13, ()))) .nil)
noncomputable def F42 : Fn := ⟨P42, R42, fun k x => S42 k x.1⟩
theorem ok42 : FnOK Try.prog 42 F42 := evalF_ok (E := E42) (T := B42) E42_ok mix Try.func42 rfl (by kernel_rfl) (by kernel_rfl) (fun k => by kernel_rfl) (fun k x => by kernel_rfl)
noncomputable abbrev P45 : List PT := [.val ⟨false, (.int .i64), false⟩, .pv (.ref Y0_11), .pv (.ref (.int .i64))]
noncomputable abbrev R45 : List RT := [.val ⟨false, .bool, true⟩]
noncomputable def S45 (k : Nat) (k_ : Int) (x1 : List Y0_1) (x2 : Int) : Option Y0_6 :=
 ix x1 k_ <|
 ix x1 x2 <|
 some (((rd x1 k_ (0, 0, 0, 0)).2.1 == (rd x1 x2 (0, 0, 0, 0)).2.1, ()), ())
noncomputable def E45 : Env := tab.env (lk []) (hintL [])
theorem E45_ok : EnvOK Try.prog E45 := envOK_of tabOK _ _ (fun f F h => by cases h)
noncomputable def B45 (k : Nat) : Tbl (RD R45 × MD P45) := .nil
noncomputable def F45 : Fn := ⟨P45, R45, fun k x => S45 k x.1 x.2.1 x.2.2.1⟩
theorem ok45 : FnOK Try.prog 45 F45 := evalF_ok (E := E45) (T := B45) E45_ok mix Try.func45 rfl (by kernel_rfl) (by kernel_rfl) (fun k => by kernel_rfl) (fun k x => by kernel_rfl)
noncomputable abbrev P59a : List PT := [.val ⟨false, (.sl 3 (.int .i64)), false⟩, .pv (.clo 45 [.ref Y0_11, .ref (.int .i64)])]
noncomputable abbrev R59a : List RT := [.val ⟨false, (.int .i64), true⟩]
noncomputable abbrev c59a_L2 : Cut := ⟨[0, 1, 7, 8], [.cell (.sl 3 (.int .i64)), .clo 45 [.ref Y0_11, .ref (.int .i64)], .cell (.int .i64), .cell (.int .i64)], [], 19⟩
noncomputable def l59a_2 (k : Nat) (g2 : (List Int) → (List Y0_1) → Int → Int → Int → Option Y0_7) (s1 : List Int) (f2 : List Y0_1) (f3 : Int) (t7 : Int) (t8 : Int) : Option Y0_7 :=
 (bif decide (t8 < t7) then
  ix s1 t8 <|
  (S45 k (rd s1 t8 0) f2 f3).bind fun q0 =>
  (bif q0.1.1 then
   some ((t8, ()), ())
  else
   g2 s1 f2 f3 t7 (IntKind.i64.wrap (t8 + 1)))
 else
  some (((-1), ()), ()))
noncomputable def b59a_2 (k : Nat) (g : ((Unit) × (List Int) × ((List Y0_1) × Int × Unit) × Int × Int × Unit) → Option Y0_7) (d : (Unit) × (List Int) × ((List Y0_1) × Int × Unit) × Int × Int × Unit) : Option Y0_7 := l59a_2 k (fun s1 f2 f3 t7 t8 => g ((), s1, (f2, f3, ()), t7, t8, ())) d.2.1 d.2.2.1.1 d.2.2.1.2.1 d.2.2.2.1 d.2.2.2.2.1
noncomputable def L59a_2 (k : Nat) (j : Nat) (s1 : List Int) (f2 : List Y0_1) (f3 : Int) (t7 : Int) (t8 : Int) : Option Y0_7 := iter (R := (Int × Unit) × Unit) c59a_L2 (b59a_2 k) j ((), s1, (f2, f3, ()), t7, t8, ())
theorem L59a_2_s (k : Nat) (j : Nat) (s1 : List Int) (f2 : List Y0_1) (f3 : Int) (t7 : Int) (t8 : Int) : L59a_2 k (j + 1) s1 f2 f3 t7 t8 = l59a_2 k (L59a_2 k j) s1 f2 f3 t7 t8 := iter_succ _ _ _ _
noncomputable def S59a (k : Nat) (s : List Int) (f : List Y0_1) (f1 : Int) : Option Y0_7 :=
 L59a_2 k k s f f1 (s.length : Int) 0
noncomputable def E59a : Env := tab.env (lk [(45, F45)]) (hintL [])
theorem E59a_ok : EnvOK Try.prog E59a := envOK_of tabOK _ _ (allFn_lk (l := [(45, F45)]) ⟨ok45, trivial⟩)
noncomputable def B59a (k : Nat) : Tbl (RD R59a × MD P59a) := (.loop 2 c59a_L2 (b59a_2 k) (fun g => .nil) .nil)
noncomputable def F59a : Fn := ⟨P59a, R59a, fun k x => S59a k x.1 x.2.1.1 x.2.1.2.1⟩
theorem ok59a : FnOK Try.prog 59 F59a := evalF_ok (E := E59a) (T := B59a) E59a_ok mix Try.func59 rfl (by kernel_rfl) (by kernel_rfl) (fun k => by kernel_rfl) (fun k x => by kernel_rfl)
noncomputable abbrev P43a : List PT := [.val ⟨false, (.sl 3 (.int .i64)), false⟩, .pv (.clo 45 [.ref Y0_11, .ref (.int .i64)])]
noncomputable abbrev R43a : List RT := [.val ⟨false, .bool, true⟩]
noncomputable def S43a (k : Nat) (s : List Int) (f : List Y0_1) (f1 : Int) : Option Y0_6 :=
 (S59a k s f f1).bind fun q0 =>
 some ((decide (q0.1.1 ≥ 0), ()), ())
noncomputable def E43a : Env := tab.env (lk [(59, F59a)]) (hintL [])
theorem E43a_ok : EnvOK Try.prog E43a := envOK_of tabOK _ _ (allFn_lk (l := [(59, F59a)]) ⟨ok59a, trivial⟩)
noncomputable def B43a (k : Nat) : Tbl (RD R43a × MD P43a) := .nil
noncomputable def F43a : Fn := ⟨P43a, R43a, fun k x => S43a k x.1 x.2.1.1 x.2.1.2.1⟩
theorem ok43a : FnOK Try.prog 43 F43a := evalF_ok (E := E43a) (T := B43a) E43a_ok mix Try.func43 rfl (by kernel_rfl) (by kernel_rfl) (fun k => by kernel_rfl) (fun k x => by kernel_rfl)
end Go.Proofs.Ytjnnjciedbgmiaa.Ab
