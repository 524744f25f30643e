import Derived.Test.YtnlfdfjkgaanjaaPbC
/- Contracts, printed by this session's own program gen.py. -/
set_option linter.unusedVariables false
set_option linter.unusedSimpArgs false
set_option maxRecDepth 100000
namespace Go.Proofs.Ytnlfdfjkgaanjaa.Ab
open Go.RowKit Go.Proofs.YtnlfdfjkgaanjaaW.PrintWords
abbrev Y0_0 : Type := Int × Int × Int × Bool
abbrev Y0_1 : Type := Int × Int × Int × Int
abbrev Y0_2 : Ty := .pair (.int .i64) (.pair (.int .i64) (.pair (.int .i64) (.int .i64)))
abbrev Y0_3 : Type := (List Y0_1) → (List Y0_0) → (List Int) → (List Y0_0) → Int → Int → Option ((Bool × Unit) × Unit)
abbrev Y0_4 : Ty := .pair (.int .i64) (.pair (.int .i64) (.pair (.int .i64) .bool))
abbrev Y0_5 : Type := (List Y0_1) → (List (PN Bool 24)) → (List Y0_0) → Int → Int → Option (((List (PN Bool 24)) × Unit) × Unit)
abbrev Y0_6 : Type := (Bool × Unit) × Unit
abbrev Y0_7 : Type := (Int × Unit) × Unit
abbrev Y0_8 : Type := ((List (PN Bool 24)) × Unit) × Unit
abbrev Y0_9 : Type := Int × Int × Int × Bool × Unit
abbrev Y0_10 : Type := ((List Y0_0) × Unit) × Unit
abbrev Y0_11 : Ty := .sl 34 Y0_2
noncomputable abbrev P90 : List PT := [.val ⟨false, (.int .i64), false⟩]
noncomputable abbrev R90 : List RT := [.val ⟨false, .bool, true⟩]
noncomputable def S90 (k : Nat) (a : Int) : Option Y0_6 :=
 (bif decide (a ≥ 0) then
  some ((decide (a < 8), ()), ())
 else
  some ((false, ()), ()))
noncomputable def E90 : Env := tab.env (lk []) (hintL [])
theorem E90_ok : EnvOK Try.prog E90 := envOK_of tabOK _ _ (fun f F h => by cases h)
noncomputable def B90 (k : Nat) : Tbl (RD R90 × MD P90) := .nil
noncomputable def F90 : Fn := ⟨P90, R90, fun k x => S90 k x.1⟩
theorem ok90 : FnOK Try.prog 90 F90 := evalF_ok (E := E90) (T := B90) E90_ok mix Try.func90 rfl (by kernel_rfl) (by kernel_rfl) (fun k => by kernel_rfl) (fun k x => by kernel_rfl)
noncomputable abbrev P91 : List PT := [.val ⟨false, (.int .i64), false⟩, .val ⟨false, (.int .i64), false⟩, .val ⟨false, (.int .i64), false⟩]
noncomputable abbrev R91 : List RT := [.val ⟨false, .bool, true⟩]
noncomputable def S91 (k : Nat) (v : Int) (from_ : Int) (to_ : Int) : Option Y0_6 :=
 (bif decide (v ≥ from_) then
  some ((decide (v ≤ to_), ()), ())
 else
  some ((false, ()), ()))
noncomputable def E91 : Env := tab.env (lk []) (hintL [])
theorem E91_ok : EnvOK Try.prog E91 := envOK_of tabOK _ _ (fun f F h => by cases h)
noncomputable def B91 (k : Nat) : Tbl (RD R91 × MD P91) := .nil
noncomputable def F91 : Fn := ⟨P91, R91, fun k x => S91 k x.1 x.2.1 x.2.2.1⟩
theorem ok91 : FnOK Try.prog 91 F91 := evalF_ok (E := E91) (T := B91) E91_ok mix Try.func91 rfl (by kernel_rfl) (by kernel_rfl) (fun k => by kernel_rfl) (fun k x => by kernel_rfl)
noncomputable abbrev P60 : List PT := [.val ⟨true, Y0_2, false⟩]
noncomputable abbrev R60 : List RT := [.val ⟨false, .bool, true⟩]
noncomputable def S60 (k : Nat) (i : Int × Int × Int × Int) : Option Y0_6 :=
 (bif i.1 == 0 then
  (bif i.2.1 == 0 then
   (bif i.2.2.1 == 0 then
    some ((i.2.2.2 == 0, ()), ())
   else
    some ((false, ()), ()))
  else
   some ((false, ()), ()))
 else
  (bif i.1 == 11 then
   (bif i.2.1 == 0 then
    (bif i.2.2.1 == 0 then
     some ((i.2.2.2 == 0, ()), ())
    else
     some ((false, ()), ()))
   else
    some ((false, ()), ()))
  else
   (bif i.1 == 1 then
    (S90 k i.2.1).bind fun q0 =>
    (bif q0.1.1 then
     (bif i.2.2.1 == 0 then
      (S91 k i.2.2.2 (-2147483648) 2147483647).bind fun q1 =>
      some ((q1.1.1, ()), ())
     else
      some ((false, ()), ()))
    else
     some ((false, ()), ()))
   else
    (bif i.1 == 2 then
     (S90 k i.2.1).bind fun q2 =>
     (bif q2.1.1 then
      (S90 k i.2.2.1).bind fun q3 =>
      (bif q3.1.1 then
       some ((i.2.2.2 == 0, ()), ())
      else
       some ((false, ()), ()))
     else
      some ((false, ()), ()))
    else
     (bif i.1 == 3 then
      (S90 k i.2.1).bind fun q4 =>
      (bif q4.1.1 then
       (S90 k i.2.2.1).bind fun q5 =>
       (bif q5.1.1 then
        some ((i.2.2.2 == 0, ()), ())
       else
        some ((false, ()), ()))
      else
       some ((false, ()), ()))
     else
      (bif i.1 == 4 then
       (S90 k i.2.1).bind fun q6 =>
       (bif q6.1.1 then
        (S90 k i.2.2.1).bind fun q7 =>
        (bif q7.1.1 then
         some ((i.2.2.2 == 0, ()), ())
        else
         some ((false, ()), ()))
       else
        some ((false, ()), ()))
      else
       (bif i.1 == 5 then
        (S90 k i.2.1).bind fun q8 =>
        (bif q8.1.1 then
         (bif i.2.2.1 == 0 then
          (S91 k i.2.2.2 (-63) 63).bind fun q9 =>
          some ((q9.1.1, ()), ())
         else
          some ((false, ()), ()))
        else
         some ((false, ()), ()))
       else
        (bif i.1 == 6 then
         (S90 k i.2.1).bind fun q10 =>
         (bif q10.1.1 then
          (bif i.2.2.1 == 0 then
           (S91 k i.2.2.2 1 64).bind fun q11 =>
           some ((q11.1.1, ()), ())
          else
           some ((false, ()), ()))
         else
          some ((false, ()), ()))
        else
         (bif i.1 == 7 then
          (S90 k i.2.1).bind fun q12 =>
          (bif q12.1.1 then
           (bif i.2.2.1 == 0 then
            (S91 k i.2.2.2 1 24).bind fun q13 =>
            some ((q13.1.1, ()), ())
           else
            some ((false, ()), ()))
          else
           some ((false, ()), ()))
         else
          (bif i.1 == 8 then
           (bif i.2.1 == 0 then
            (S91 k i.2.2.1 1 24).bind fun q14 =>
            (bif q14.1.1 then
             (S91 k i.2.2.2 1 20).bind fun q15 =>
             some ((q15.1.1, ()), ())
            else
             some ((false, ()), ()))
           else
            some ((false, ()), ()))
          else
           (bif i.1 == 9 then
            (S91 k i.2.1 0 3).bind fun q16 =>
            (bif q16.1.1 then
             (bif i.2.2.1 == 0 then
              some ((i.2.2.2 == 0, ()), ())
             else
              some ((false, ()), ()))
            else
             some ((false, ()), ()))
           else
            (bif i.1 == 10 then
             (S91 k i.2.1 0 3).bind fun q17 =>
             (bif q17.1.1 then
              (bif i.2.2.1 == 0 then
               some ((i.2.2.2 == 0, ()), ())
              else
               some ((false, ()), ()))
             else
              some ((false, ()), ()))
            else
             some ((false, ()), ())))))))))))))
noncomputable def E60 : Env := tab.env (lk [(90, F90), (91, F91)]) (hintL [])
theorem E60_ok : EnvOK Try.prog E60 := envOK_of tabOK _ _ (allFn_lk (l := [(90, F90), (91, F91)]) ⟨ok90, ok91, trivial⟩)
noncomputable def B60 (k : Nat) : Tbl (RD R60 × MD P60) := .nil
noncomputable def F60 : Fn := ⟨P60, R60, fun k x => S60 k x.1⟩
theorem ok60 : FnOK Try.prog 60 F60 := evalF_ok (E := E60) (T := B60) E60_ok mix Try.func60 rfl (by kernel_rfl) (by kernel_rfl) (fun k => by kernel_rfl) (fun k x => by kernel_rfl)
noncomputable abbrev P59 : List PT := [.val ⟨true, Y0_2, false⟩]
noncomputable abbrev R59 : List RT := [.val ⟨false, .bool, true⟩]
noncomputable def S59 (k : Nat) (i : Int × Int × Int × Int) : Option Y0_6 :=
 (S60 k i).bind fun q0 =>
 some ((!q0.1.1, ()), ())
noncomputable def E59 : Env := tab.env (lk [(60, F60)]) (hintL [])
theorem E59_ok : EnvOK Try.prog E59 := envOK_of tabOK _ _ (allFn_lk (l := [(60, F60)]) ⟨ok60, trivial⟩)
noncomputable def B59 (k : Nat) : Tbl (RD R59 × MD P59) := .nil
noncomputable def F59 : Fn := ⟨P59, R59, fun k x => S59 k x.1⟩
theorem ok59 : FnOK Try.prog 59 F59 := evalF_ok (E := E59) (T := B59) E59_ok mix Try.func59 rfl (by kernel_rfl) (by kernel_rfl) (fun k => by kernel_rfl) (fun k x => by kernel_rfl)
noncomputable abbrev P61 : List PT := [.val ⟨false, Y0_11, false⟩, .pv (.clo 59 [])]
noncomputable abbrev R61 : List RT := [.val ⟨false, (.int .i64), true⟩]
noncomputable abbrev c61_L2 : Cut := ⟨[0, 1, 7, 8], [.cell Y0_11, .clo 59 [], .cell (.int .i64), .cell (.int .i64)], [], 19⟩
noncomputable def l61_2 (k : Nat) (g2 : (List Y0_1) → Int → Int → Option Y0_7) (s1 : List Y0_1) (t7 : Int) (t8 : Int) : Option Y0_7 :=
 (bif decide (t8 < t7) then
  ix s1 t8 <|
  (S59 k (rd s1 t8 (0, 0, 0, 0))).bind fun q0 =>
  (bif q0.1.1 then
   some ((t8, ()), ())
  else
   g2 s1 t7 (IntKind.i64.wrap (t8 + 1)))
 else
  some (((-1), ()), ()))
noncomputable def b61_2 (k : Nat) (g : ((Unit) × (List Y0_1) × Unit × Int × Int × Unit) → Option Y0_7) (d : (Unit) × (List Y0_1) × Unit × Int × Int × Unit) : Option Y0_7 := l61_2 k (fun s1 t7 t8 => g ((), s1, (), t7, t8, ())) d.2.1 d.2.2.2.1 d.2.2.2.2.1
noncomputable def L61_2 (k : Nat) (j : Nat) (s1 : List Y0_1) (t7 : Int) (t8 : Int) : Option Y0_7 := iter (R := (Int × Unit) × Unit) c61_L2 (b61_2 k) j ((), s1, (), t7, t8, ())
theorem L61_2_s (k : Nat) (j : Nat) (s1 : List Y0_1) (t7 : Int) (t8 : Int) : L61_2 k (j + 1) s1 t7 t8 = l61_2 k (L61_2 k j) s1 t7 t8 := iter_succ _ _ _ _
noncomputable def S61 (k : Nat) (s : List Y0_1) : Option Y0_7 :=
 L61_2 k k s (s.length : Int) 0
noncomputable def E61 : Env := tab.env (lk [(59, F59)]) (hintL [])
theorem E61_ok : EnvOK Try.prog E61 := envOK_of tabOK _ _ (allFn_lk (l := [(59, F59)]) ⟨ok59, trivial⟩)
noncomputable def B61 (k : Nat) : Tbl (RD R61 × MD P61) := (.loop 2 c61_L2 (b61_2 k) (fun g => .nil) .nil)
noncomputable def F61 : Fn := ⟨P61, R61, fun k x => S61 k x.1⟩
theorem ok61 : FnOK Try.prog 61 F61 := evalF_ok (E := E61) (T := B61) E61_ok mix Try.func61 rfl (by kernel_rfl) (by kernel_rfl) (fun k => by kernel_rfl) (fun k x => by kernel_rfl)
noncomputable abbrev P58 : List PT := [.val ⟨false, Y0_11, false⟩, .pv (.clo 59 [])]
noncomputable abbrev R58 : List RT := [.val ⟨false, .bool, true⟩]
noncomputable def S58 (k : Nat) (s : List Y0_1) : Option Y0_6 :=
 (S61 k s).bind fun q0 =>
 some ((decide (q0.1.1 ≥ 0), ()), ())
noncomputable def E58 : Env := tab.env (lk [(61, F61)]) (hintL [])
theorem E58_ok : EnvOK Try.prog E58 := envOK_of tabOK _ _ (allFn_lk (l := [(61, F61)]) ⟨ok61, trivial⟩)
noncomputable def B58 (k : Nat) : Tbl (RD R58 × MD P58) := .nil
noncomputable def F58 : Fn := ⟨P58, R58, fun k x => S58 k x.1⟩
theorem ok58 : FnOK Try.prog 58 F58 := evalF_ok (E := E58) (T := B58) E58_ok mix Try.func58 rfl (by kernel_rfl) (by kernel_rfl) (fun k => by kernel_rfl) (fun k x => by kernel_rfl)
noncomputable abbrev P62 : List PT := [.val ⟨true, Y0_2, false⟩]
noncomputable abbrev R62 : List RT := [.val ⟨false, .bool, true⟩]
noncomputable def S62 (k : Nat) (i : Int × Int × Int × Int) : Option Y0_6 :=
 some ((i.1 == 0, ()), ())
noncomputable def E62 : Env := tab.env (lk []) (hintL [])
theorem E62_ok : EnvOK Try.prog E62 := envOK_of tabOK _ _ (fun f F h => by cases h)
noncomputable def B62 (k : Nat) : Tbl (RD R62 × MD P62) := .nil
noncomputable def F62 : Fn := ⟨P62, R62, fun k x => S62 k x.1⟩
theorem ok62 : FnOK Try.prog 62 F62 := evalF_ok (E := E62) (T := B62) E62_ok mix Try.func62 rfl (by kernel_rfl) (by kernel_rfl) (fun k => by kernel_rfl) (fun k x => by kernel_rfl)
noncomputable abbrev P61a : List PT := [.val ⟨false, Y0_11, false⟩, .pv (.clo 62 [])]
noncomputable abbrev R61a : List RT := [.val ⟨false, (.int .i64), true⟩]
noncomputable abbrev c61a_L2 : Cut := ⟨[0, 1, 7, 8], [.cell Y0_11, .clo 62 [], .cell (.int .i64), .cell (.int .i64)], [], 19⟩
noncomputable def l61a_2 (k : Nat) (g2 : (List Y0_1) → Int → Int → Option Y0_7) (s1 : List Y0_1) (t7 : Int) (t8 : Int) : Option Y0_7 :=
 (bif decide (t8 < t7) then
  ix s1 t8 <|
  (S62 k (rd s1 t8 (0, 0, 0, 0))).bind fun q0 =>
  (bif q0.1.1 then
   some ((t8, ()), ())
  else
   g2 s1 t7 (IntKind.i64.wrap (t8 + 1)))
 else
  some (((-1), ()), ()))
noncomputable def b61a_2 (k : Nat) (g : ((Unit) × (List Y0_1) × Unit × Int × Int × Unit) → Option Y0_7) (d : (Unit) × (List Y0_1) × Unit × Int × Int × Unit) : Option Y0_7 := l61a_2 k (fun s1 t7 t8 => g ((), s1, (), t7, t8, ())) d.2.1 d.2.2.2.1 d.2.2.2.2.1
noncomputable def L61a_2 (k : Nat) (j : Nat) (s1 : List Y0_1) (t7 : Int) (t8 : Int) : Option Y0_7 := iter (R := (Int × Unit) × Unit) c61a_L2 (b61a_2 k) j ((), s1, (), t7, t8, ())
theorem L61a_2_s (k : Nat) (j : Nat) (s1 : List Y0_1) (t7 : Int) (t8 : Int) : L61a_2 k (j + 1) s1 t7 t8 = l61a_2 k (L61a_2 k j) s1 t7 t8 := iter_succ _ _ _ _
noncomputable def S61a (k : Nat) (s : List Y0_1) : Option Y0_7 :=
 L61a_2 k k s (s.length : Int) 0
noncomputable def E61a : Env := tab.env (lk [(62, F62)]) (hintL [])
theorem E61a_ok : EnvOK Try.prog E61a := envOK_of tabOK _ _ (allFn_lk (l := [(62, F62)]) ⟨ok62, trivial⟩)
noncomputable def B61a (k : Nat) : Tbl (RD R61a × MD P61a) := (.loop 2 c61a_L2 (b61a_2 k) (fun g => .nil) .nil)
noncomputable def F61a : Fn := ⟨P61a, R61a, fun k x => S61a k x.1⟩
theorem ok61a : FnOK Try.prog 61 F61a := evalF_ok (E := E61a) (T := B61a) E61a_ok mix Try.func61 rfl (by kernel_rfl) (by kernel_rfl) (fun k => by kernel_rfl) (fun k x => by kernel_rfl)
noncomputable abbrev P92 : List PT := [.val ⟨false, Y0_11, false⟩]
noncomputable abbrev R92 : List RT := [.val ⟨false, (.sl 169 Y0_4), true⟩]
noncomputable abbrev c92_L2 : Cut := ⟨[2, 5, 6, 7], [.own 169 Y0_4, .cell Y0_11, .cell (.int .i64), .cell (.int .i64)], [], 42⟩
noncomputable def l92_2 (k : Nat) (g2 : (List Y0_0) → (List Y0_1) → Int → Int → Option Y0_10) (out : List Y0_0) (t5 : List Y0_1) (t6 : Int) (t7 : Int) : Option Y0_10 :=
 (bif decide (t7 < t6) then
  ix t5 t7 <|
  (bif (rd t5 t7 (0, 0, 0, 0)).1 == 8 then
   ap out ([(IntKind.i64.wrap (t7 + 1), IntKind.i64.wrap (t7 + (rd t5 t7 (0, 0, 0, 0)).2.2.1), t7, true)] : List Y0_0) 32 fun r0 =>
   g2 r0 t5 t6 (IntKind.i64.wrap (t7 + 1))
  else
   (bif (rd t5 t7 (0, 0, 0, 0)).1 == 7 then
    ap out ([(IntKind.i64.wrap (t7 + 1), IntKind.i64.wrap (t7 + (rd t5 t7 (0, 0, 0, 0)).2.2.2), t7, false)] : List Y0_0) 32 fun r1 =>
    g2 r1 t5 t6 (IntKind.i64.wrap (t7 + 1))
   else
    g2 out t5 t6 (IntKind.i64.wrap (t7 + 1))))
 else
  some ((out, ()), ()))
noncomputable def b92_2 (k : Nat) (g : ((Unit) × (List Y0_0) × (List Y0_1) × Int × Int × Unit) → Option Y0_10) (d : (Unit) × (List Y0_0) × (List Y0_1) × Int × Int × Unit) : Option Y0_10 := l92_2 k (fun out t5 t6 t7 => g ((), out, t5, t6, t7, ())) d.2.1 d.2.2.1 d.2.2.2.1 d.2.2.2.2.1
noncomputable def L92_2 (k : Nat) (j : Nat) (out : List Y0_0) (t5 : List Y0_1) (t6 : Int) (t7 : Int) : Option Y0_10 := iter (R := ((List Y0_0) × Unit) × Unit) c92_L2 (b92_2 k) j ((), out, t5, t6, t7, ())
theorem L92_2_s (k : Nat) (j : Nat) (out : List Y0_0) (t5 : List Y0_1) (t6 : Int) (t7 : Int) : L92_2 k (j + 1) out t5 t6 t7 = l92_2 k (L92_2 k j) out t5 t6 t7 := iter_succ _ _ _ _
noncomputable def S92 (k : Nat) (l_ : List Y0_1) : Option Y0_10 :=
 L92_2 k k ([] : List Y0_0) l_ (l_.length : Int) 0
noncomputable def E92 : Env := tab.env (lk []) (hintL [(2, 2)])
theorem E92_ok : EnvOK Try.prog E92 := envOK_of tabOK _ _ (fun f F h => by cases h)
noncomputable def B92 (k : Nat) : Tbl (RD R92 × MD P92) := (.loop 2 c92_L2 (b92_2 k) (fun g => .nil) .nil)
noncomputable def F92 : Fn := ⟨P92, R92, fun k x => S92 k x.1⟩
theorem ok92 : FnOK Try.prog 92 F92 := evalF_ok (E := E92) (T := B92) E92_ok mix Try.func92 rfl (by kernel_rfl) (by kernel_rfl) (fun k => by kernel_rfl) (fun k x => by kernel_rfl)
noncomputable abbrev P93 : List PT := [.val ⟨true, Y0_4, false⟩, .val ⟨false, (.int .i64), false⟩]
noncomputable abbrev R93 : List RT := [.val ⟨false, .bool, true⟩]
noncomputable def S93 (k : Nat) (p : Int × Int × Int × Bool) (i : Int) : Option Y0_6 :=
 (bif decide (i ≥ p.1) then
  some ((decide (i ≤ p.2.1), ()), ())
 else
  some ((false, ()), ()))
noncomputable def E93 : Env := tab.env (lk []) (hintL [])
theorem E93_ok : EnvOK Try.prog E93 := envOK_of tabOK _ _ (fun f F h => by cases h)
noncomputable def B93 (k : Nat) : Tbl (RD R93 × MD P93) := .nil
noncomputable def F93 : Fn := ⟨P93, R93, fun k x => S93 k x.1 x.2.1⟩
theorem ok93 : FnOK Try.prog 93 F93 := evalF_ok (E := E93) (T := B93) E93_ok mix Try.func93 rfl (by kernel_rfl) (by kernel_rfl) (fun k => by kernel_rfl) (fun k x => by kernel_rfl)
noncomputable abbrev P94 : List PT := [.val ⟨true, Y0_4, false⟩, .val ⟨true, Y0_4, false⟩]
noncomputable abbrev R94 : List RT := [.val ⟨false, .bool, true⟩]
noncomputable def S94 (k : Nat) (p : Int × Int × Int × Bool) (q_ : Int × Int × Int × Bool) : Option Y0_6 :=
 (S93 k q_ p.1).bind fun q0 =>
 (bif q0.1.1 then
  (S93 k q_ p.2.1).bind fun q1 =>
  some ((q1.1.1, ()), ())
 else
  some ((false, ()), ()))
noncomputable def E94 : Env := tab.env (lk [(93, F93)]) (hintL [])
theorem E94_ok : EnvOK Try.prog E94 := envOK_of tabOK _ _ (allFn_lk (l := [(93, F93)]) ⟨ok93, trivial⟩)
noncomputable def B94 (k : Nat) : Tbl (RD R94 × MD P94) := .nil
noncomputable def F94 : Fn := ⟨P94, R94, fun k x => S94 k x.1 x.2.1⟩
theorem ok94 : FnOK Try.prog 94 F94 := evalF_ok (E := E94) (T := B94) E94_ok mix Try.func94 rfl (by kernel_rfl) (by kernel_rfl) (fun k => by kernel_rfl) (fun k x => by kernel_rfl)
noncomputable abbrev P95 : List PT := [.val ⟨true, Y0_4, false⟩, .val ⟨true, Y0_4, false⟩]
noncomputable abbrev R95 : List RT := [.val ⟨false, .bool, true⟩]
noncomputable def S95 (k : Nat) (p : Int × Int × Int × Bool) (q_ : Int × Int × Int × Bool) : Option Y0_6 :=
 (bif decide (p.2.1 < q_.1) then
  some ((true, ()), ())
 else
  some ((decide (q_.2.1 < p.1), ()), ()))
noncomputable def E95 : Env := tab.env (lk []) (hintL [])
theorem E95_ok : EnvOK Try.prog E95 := envOK_of tabOK _ _ (fun f F h => by cases h)
noncomputable def B95 (k : Nat) : Tbl (RD R95 × MD P95) := .nil
noncomputable def F95 : Fn := ⟨P95, R95, fun k x => S95 k x.1 x.2.1⟩
theorem ok95 : FnOK Try.prog 95 F95 := evalF_ok (E := E95) (T := B95) E95_ok mix Try.func95 rfl (by kernel_rfl) (by kernel_rfl) (fun k => by kernel_rfl) (fun k x => by kernel_rfl)
noncomputable abbrev P96 : List PT := [.val ⟨false, (.int .i64), false⟩]
noncomputable abbrev R96 : List RT := [.val ⟨false, .bool, true⟩]
noncomputable def S96 (k : Nat) (n : Int) : Option Y0_6 :=
 some ((decide (n > 2), ()), ())
noncomputable def E96 : Env := tab.env (lk []) (hintL [])
theorem E96_ok : EnvOK Try.prog E96 := envOK_of tabOK _ _ (fun f F h => by cases h)
noncomputable def B96 (k : Nat) : Tbl (RD R96 × MD P96) := .nil
noncomputable def F96 : Fn := ⟨P96, R96, fun k x => S96 k x.1⟩
theorem ok96 : FnOK Try.prog 96 F96 := evalF_ok (E := E96) (T := B96) E96_ok mix Try.func96 rfl (by kernel_rfl) (by kernel_rfl) (fun k => by kernel_rfl) (fun k x => by kernel_rfl)
noncomputable abbrev P98 : List PT := [.val ⟨false, (.sl 3 (.int .i64)), false⟩, .pv (.clo 96 [])]
noncomputable abbrev R98 : List RT := [.val ⟨false, (.int .i64), true⟩]
noncomputable abbrev c98_L2 : Cut := ⟨[0, 1, 7, 8], [.cell (.sl 3 (.int .i64)), .clo 96 [], .cell (.int .i64), .cell (.int .i64)], [], 19⟩
noncomputable def l98_2 (k : Nat) (g2 : (List Int) → Int → Int → Option Y0_7) (s1 : List Int) (t7 : Int) (t8 : Int) : Option Y0_7 :=
 (bif decide (t8 < t7) then
  ix s1 t8 <|
  (S96 k (rd s1 t8 0)).bind fun q0 =>
  (bif q0.1.1 then
   some ((t8, ()), ())
  else
   g2 s1 t7 (IntKind.i64.wrap (t8 + 1)))
 else
  some (((-1), ()), ()))
noncomputable def b98_2 (k : Nat) (g : ((Unit) × (List Int) × Unit × Int × Int × Unit) → Option Y0_7) (d : (Unit) × (List Int) × Unit × Int × Int × Unit) : Option Y0_7 := l98_2 k (fun s1 t7 t8 => g ((), s1, (), t7, t8, ())) d.2.1 d.2.2.2.1 d.2.2.2.2.1
noncomputable def L98_2 (k : Nat) (j : Nat) (s1 : List Int) (t7 : Int) (t8 : Int) : Option Y0_7 := iter (R := (Int × Unit) × Unit) c98_L2 (b98_2 k) j ((), s1, (), t7, t8, ())
theorem L98_2_s (k : Nat) (j : Nat) (s1 : List Int) (t7 : Int) (t8 : Int) : L98_2 k (j + 1) s1 t7 t8 = l98_2 k (L98_2 k j) s1 t7 t8 := iter_succ _ _ _ _
noncomputable def S98 (k : Nat) (s : List Int) : Option Y0_7 :=
 L98_2 k k s (s.length : Int) 0
noncomputable def E98 : Env := tab.env (lk [(96, F96)]) (hintL [])
theorem E98_ok : EnvOK Try.prog E98 := envOK_of tabOK _ _ (allFn_lk (l := [(96, F96)]) ⟨ok96, trivial⟩)
noncomputable def B98 (k : Nat) : Tbl (RD R98 × MD P98) := (.loop 2 c98_L2 (b98_2 k) (fun g => .nil) .nil)
noncomputable def F98 : Fn := ⟨P98, R98, fun k x => S98 k x.1⟩
theorem ok98 : FnOK Try.prog 98 F98 := evalF_ok (E := E98) (T := B98) E98_ok mix Try.func98 rfl (by kernel_rfl) (by kernel_rfl) (fun k => by kernel_rfl) (fun k x => by kernel_rfl)
noncomputable abbrev P66 : List PT := [.val ⟨false, (.sl 3 (.int .i64)), false⟩, .pv (.clo 96 [])]
noncomputable abbrev R66 : List RT := [.val ⟨false, .bool, true⟩]
noncomputable def S66 (k : Nat) (s : List Int) : Option Y0_6 :=
 (S98 k s).bind fun q0 =>
 some ((decide (q0.1.1 ≥ 0), ()), ())
noncomputable def E66 : Env := tab.env (lk [(98, F98)]) (hintL [])
theorem E66_ok : EnvOK Try.prog E66 := envOK_of tabOK _ _ (allFn_lk (l := [(98, F98)]) ⟨ok98, trivial⟩)
noncomputable def B66 (k : Nat) : Tbl (RD R66 × MD P66) := .nil
noncomputable def F66 : Fn := ⟨P66, R66, fun k x => S66 k x.1⟩
theorem ok66 : FnOK Try.prog 66 F66 := evalF_ok (E := E66) (T := B66) E66_ok mix Try.func66 rfl (by kernel_rfl) (by kernel_rfl) (fun k => by kernel_rfl) (fun k x => by kernel_rfl)
noncomputable abbrev P63 : List PT := [.val ⟨false, Y0_11, false⟩]
noncomputable abbrev R63 : List RT := [.val ⟨false, .bool, true⟩]
noncomputable abbrev c63_L15 : Cut := ⟨[0, 3, 4, 6, 9, 15, 16, 17], [.cell Y0_11, .cell (.sl 169 Y0_4), .own 3 (.int .i64), .box 169 [.cell (.int .i64), .cell (.int .i64), .cell (.int .i64), .cell .bool], .cell (.int .i64), .cell (.sl 169 Y0_4), .cell (.int .i64), .cell (.int .i64)], [], 84⟩
noncomputable def l63_15 (k : Nat) (g4 : Y0_3) (g15 : (List Y0_1) → (List Y0_0) → (List Int) → Int → Int → Int → Bool → Int → (List Y0_0) → Int → Int → Option Y0_6) (l_3 : List Y0_1) (all2 : List Y0_0) (around2 : List Int) (p4 : Int) (p5 : Int) (p6 : Int) (p7 : Bool) (i : Int) (t15_2 : List Y0_0) (t16_2 : Int) (t17_2 : Int) : Option Y0_6 :=
 (bif p7 then
  (bif decide (i ≤ p5) then
   ix around2 i <|
   ix around2 i <|
   g15 l_3 all2 (upd around2 i (IntKind.i64.wrap ((rd around2 i 0) + 1))) p4 p5 p6 p7 (IntKind.i64.wrap (i + 1)) t15_2 t16_2 t17_2
  else
   g4 l_3 all2 around2 t15_2 t16_2 (IntKind.i64.wrap (t17_2 + 1)))
 else
  g4 l_3 all2 around2 t15_2 t16_2 (IntKind.i64.wrap (t17_2 + 1)))
noncomputable def b63_15 (k : Nat) (g4 : Y0_3) (g : ((Unit) × (List Y0_1) × (List Y0_0) × (List Int) × Y0_9 × Int × (List Y0_0) × Int × Int × Unit) → Option Y0_6) (d : (Unit) × (List Y0_1) × (List Y0_0) × (List Int) × Y0_9 × Int × (List Y0_0) × Int × Int × Unit) : Option Y0_6 := l63_15 k g4 (fun l_3 all2 around2 p4 p5 p6 p7 i t15_2 t16_2 t17_2 => g ((), l_3, all2, around2, (p4, p5, p6, p7, ()), i, t15_2, t16_2, t17_2, ())) d.2.1 d.2.2.1 d.2.2.2.1 d.2.2.2.2.1.1 d.2.2.2.2.1.2.1 d.2.2.2.2.1.2.2.1 d.2.2.2.2.1.2.2.2.1 d.2.2.2.2.2.1 d.2.2.2.2.2.2.1 d.2.2.2.2.2.2.2.1 d.2.2.2.2.2.2.2.2.1
noncomputable def L63_15 (k : Nat) (g4 : Y0_3) (j : Nat) (l_3 : List Y0_1) (all2 : List Y0_0) (around2 : List Int) (p4 : Int) (p5 : Int) (p6 : Int) (p7 : Bool) (i : Int) (t15_2 : List Y0_0) (t16_2 : Int) (t17_2 : Int) : Option Y0_6 := iter (R := (Bool × Unit) × Unit) c63_L15 (b63_15 k g4) j ((), l_3, all2, around2, (p4, p5, p6, p7, ()), i, t15_2, t16_2, t17_2, ())
theorem L63_15_s (k : Nat) (g4 : Y0_3) (j : Nat) (l_3 : List Y0_1) (all2 : List Y0_0) (around2 : List Int) (p4 : Int) (p5 : Int) (p6 : Int) (p7 : Bool) (i : Int) (t15_2 : List Y0_0) (t16_2 : Int) (t17_2 : Int) : L63_15 k g4 (j + 1) l_3 all2 around2 p4 p5 p6 p7 i t15_2 t16_2 t17_2 = l63_15 k g4 (L63_15 k g4 j) l_3 all2 around2 p4 p5 p6 p7 i t15_2 t16_2 t17_2 := iter_succ _ _ _ _
noncomputable abbrev c63_L9 : Cut := ⟨[0, 3, 4, 6, 15, 16, 17, 27, 28, 29], [.cell Y0_11, .cell (.sl 169 Y0_4), .own 3 (.int .i64), .box 169 [.cell (.int .i64), .cell (.int .i64), .cell (.int .i64), .cell .bool], .cell (.sl 169 Y0_4), .cell (.int .i64), .cell (.int .i64), .cell (.sl 169 Y0_4), .cell (.int .i64), .cell (.int .i64)], [], 84⟩
noncomputable def l63_9 (k : Nat) (g4 : Y0_3) (g9 : (List Y0_1) → (List Y0_0) → (List Int) → Int → Int → Int → Bool → (List Y0_0) → Int → Int → (List Y0_0) → Int → Int → Option Y0_6) (l_2 : List Y0_1) (all1 : List Y0_0) (around1 : List Int) (p : Int) (p1 : Int) (p2 : Int) (p3 : Bool) (t15_1 : List Y0_0) (t16_1 : Int) (t17_1 : Int) (t27 : List Y0_0) (t28 : Int) (t29 : Int) : Option Y0_6 :=
 (bif decide (t29 < t28) then
  ix t27 t29 <|
  (S93 k (rd t27 t29 (0, 0, 0, false)) p2).bind fun q1 =>
  (bif q1.1.1 then
   (S94 k (p, p1, p2, p3) (rd t27 t29 (0, 0, 0, false))).bind fun q2 =>
   (bif !q2.1.1 then
    some ((false, ()), ())
   else
    (S95 k (p, p1, p2, p3) (rd t27 t29 (0, 0, 0, false))).bind fun q3 =>
    (bif !q3.1.1 then
     (S94 k (p, p1, p2, p3) (rd t27 t29 (0, 0, 0, false))).bind fun q4 =>
     (bif !q4.1.1 then
      (S94 k (rd t27 t29 (0, 0, 0, false)) (p, p1, p2, p3)).bind fun q5 =>
      (bif !q5.1.1 then
       some ((false, ()), ())
      else
       g9 l_2 all1 around1 p p1 p2 p3 t15_1 t16_1 t17_1 t27 t28 (IntKind.i64.wrap (t29 + 1)))
     else
      g9 l_2 all1 around1 p p1 p2 p3 t15_1 t16_1 t17_1 t27 t28 (IntKind.i64.wrap (t29 + 1)))
    else
     g9 l_2 all1 around1 p p1 p2 p3 t15_1 t16_1 t17_1 t27 t28 (IntKind.i64.wrap (t29 + 1))))
  else
   (S95 k (p, p1, p2, p3) (rd t27 t29 (0, 0, 0, false))).bind fun q6 =>
   (bif !q6.1.1 then
    (S94 k (p, p1, p2, p3) (rd t27 t29 (0, 0, 0, false))).bind fun q7 =>
    (bif !q7.1.1 then
     (S94 k (rd t27 t29 (0, 0, 0, false)) (p, p1, p2, p3)).bind fun q8 =>
     (bif !q8.1.1 then
      some ((false, ()), ())
     else
      g9 l_2 all1 around1 p p1 p2 p3 t15_1 t16_1 t17_1 t27 t28 (IntKind.i64.wrap (t29 + 1)))
    else
     g9 l_2 all1 around1 p p1 p2 p3 t15_1 t16_1 t17_1 t27 t28 (IntKind.i64.wrap (t29 + 1)))
   else
    g9 l_2 all1 around1 p p1 p2 p3 t15_1 t16_1 t17_1 t27 t28 (IntKind.i64.wrap (t29 + 1))))
 else
  L63_15 k g4 k l_2 all1 around1 p p1 p2 p3 p t15_1 t16_1 t17_1)
noncomputable def b63_9 (k : Nat) (g4 : Y0_3) (g : ((Unit) × (List Y0_1) × (List Y0_0) × (List Int) × Y0_9 × (List Y0_0) × Int × Int × (List Y0_0) × Int × Int × Unit) → Option Y0_6) (d : (Unit) × (List Y0_1) × (List Y0_0) × (List Int) × Y0_9 × (List Y0_0) × Int × Int × (List Y0_0) × Int × Int × Unit) : Option Y0_6 := l63_9 k g4 (fun l_2 all1 around1 p p1 p2 p3 t15_1 t16_1 t17_1 t27 t28 t29 => g ((), l_2, all1, around1, (p, p1, p2, p3, ()), t15_1, t16_1, t17_1, t27, t28, t29, ())) d.2.1 d.2.2.1 d.2.2.2.1 d.2.2.2.2.1.1 d.2.2.2.2.1.2.1 d.2.2.2.2.1.2.2.1 d.2.2.2.2.1.2.2.2.1 d.2.2.2.2.2.1 d.2.2.2.2.2.2.1 d.2.2.2.2.2.2.2.1 d.2.2.2.2.2.2.2.2.1 d.2.2.2.2.2.2.2.2.2.1 d.2.2.2.2.2.2.2.2.2.2.1
noncomputable def L63_9 (k : Nat) (g4 : Y0_3) (j : Nat) (l_2 : List Y0_1) (all1 : List Y0_0) (around1 : List Int) (p : Int) (p1 : Int) (p2 : Int) (p3 : Bool) (t15_1 : List Y0_0) (t16_1 : Int) (t17_1 : Int) (t27 : List Y0_0) (t28 : Int) (t29 : Int) : Option Y0_6 := iter (R := (Bool × Unit) × Unit) c63_L9 (b63_9 k g4) j ((), l_2, all1, around1, (p, p1, p2, p3, ()), t15_1, t16_1, t17_1, t27, t28, t29, ())
theorem L63_9_s (k : Nat) (g4 : Y0_3) (j : Nat) (l_2 : List Y0_1) (all1 : List Y0_0) (around1 : List Int) (p : Int) (p1 : Int) (p2 : Int) (p3 : Bool) (t15_1 : List Y0_0) (t16_1 : Int) (t17_1 : Int) (t27 : List Y0_0) (t28 : Int) (t29 : Int) : L63_9 k g4 (j + 1) l_2 all1 around1 p p1 p2 p3 t15_1 t16_1 t17_1 t27 t28 t29 = l63_9 k g4 (L63_9 k g4 j) l_2 all1 around1 p p1 p2 p3 t15_1 t16_1 t17_1 t27 t28 t29 := iter_succ _ _ _ _
noncomputable abbrev c63_L4 : Cut := ⟨[0, 3, 4, 15, 16, 17], [.cell Y0_11, .cell (.sl 169 Y0_4), .own 3 (.int .i64), .cell (.sl 169 Y0_4), .cell (.int .i64), .cell (.int .i64)], [], 84⟩
noncomputable def l63_4 (k : Nat) (g4 : Y0_3) (l_1 : List Y0_1) (all : List Y0_0) (around : List Int) (t15 : List Y0_0) (t16 : Int) (t17 : Int) : Option Y0_6 :=
 (bif decide (t17 < t16) then
  ix t15 t17 <|
  (bif decide ((rd t15 t17 (0, 0, 0, false)).2.1 ≥ (IntKind.i64.wrap ((l_1.length : Int) - 1))) then
   some ((false, ()), ())
  else
   L63_9 k g4 k l_1 all around (rd t15 t17 (0, 0, 0, false)).1 (rd t15 t17 (0, 0, 0, false)).2.1 (rd t15 t17 (0, 0, 0, false)).2.2.1 (rd t15 t17 (0, 0, 0, false)).2.2.2 t15 t16 t17 all (all.length : Int) 0)
 else
  (S66 k around).bind fun q9 =>
  some ((!q9.1.1, ()), ()))
noncomputable def b63_4 (k : Nat) (g : ((Unit) × (List Y0_1) × (List Y0_0) × (List Int) × (List Y0_0) × Int × Int × Unit) → Option Y0_6) (d : (Unit) × (List Y0_1) × (List Y0_0) × (List Int) × (List Y0_0) × Int × Int × Unit) : Option Y0_6 := l63_4 k (fun l_1 all around t15 t16 t17 => g ((), l_1, all, around, t15, t16, t17, ())) d.2.1 d.2.2.1 d.2.2.2.1 d.2.2.2.2.1 d.2.2.2.2.2.1 d.2.2.2.2.2.2.1
noncomputable def L63_4 (k : Nat) (j : Nat) (l_1 : List Y0_1) (all : List Y0_0) (around : List Int) (t15 : List Y0_0) (t16 : Int) (t17 : Int) : Option Y0_6 := iter (R := (Bool × Unit) × Unit) c63_L4 (b63_4 k) j ((), l_1, all, around, t15, t16, t17, ())
theorem L63_4_s (k : Nat) (j : Nat) (l_1 : List Y0_1) (all : List Y0_0) (around : List Int) (t15 : List Y0_0) (t16 : Int) (t17 : Int) : L63_4 k (j + 1) l_1 all around t15 t16 t17 = l63_4 k (L63_4 k j) l_1 all around t15 t16 t17 := iter_succ _ _ _ _
noncomputable def S63 (k : Nat) (l_ : List Y0_1) : Option Y0_6 :=
 (S92 k l_).bind fun q0 =>
 mk (l_.length : Int) (l_.length : Int) 8 <|
 L63_4 k k l_ q0.1.1 (List.replicate (l_.length : Int).toNat (0 : Int)) q0.1.1 (q0.1.1.length : Int) 0
noncomputable def E63 : Env := tab.env (lk [(66, F66), (92, F92), (93, F93), (94, F94), (95, F95)]) (hintL [])
theorem E63_ok : EnvOK Try.prog E63 := envOK_of tabOK _ _ (allFn_lk (l := [(66, F66), (92, F92), (93, F93), (94, F94), (95, F95)]) ⟨ok66, ok92, ok93, ok94, ok95, trivial⟩)
noncomputable def B63 (k : Nat) : Tbl (RD R63 × MD P63) := (.loop 4 c63_L4 (b63_4 k) (fun g => (fun (g4 : Y0_3) => (.loop 15 c63_L15 (b63_15 k g4) (fun g => .nil) (.loop 9 c63_L9 (b63_9 k g4) (fun g => .nil) .nil))) (fun l_1 all around t15 t16 t17 => g ((), l_1, all, around, t15, t16, t17, ()))) .nil)
noncomputable def F63 : Fn := ⟨P63, R63, fun k x => S63 k x.1⟩
theorem ok63 : FnOK Try.prog 63 F63 := evalF_ok (E := E63) (T := B63) E63_ok mix Try.func63 rfl (by kernel_rfl) (by kernel_rfl) (fun k => by kernel_rfl) (fun k x => by kernel_rfl)
noncomputable abbrev P65 : List PT := [.val ⟨false, Y0_11, false⟩]
noncomputable abbrev R65 : List RT := [.val ⟨false, (.sl 134 (arrT 24 .bool)), true⟩]
noncomputable abbrev c65_L6 : Cut := ⟨[0, 3, 4, 5, 11, 12, 13, 19, 20], [.cell Y0_11, .own 134 (arrT 24 .bool), .cell (.int .i64), .box 169 [.cell (.int .i64), .cell (.int .i64), .cell (.int .i64), .cell .bool], .own 169 Y0_4, .cell (.int .i64), .cell (.int .i64), .cell (.int .i64), .cell (.int .i64)], [], 38⟩
noncomputable def l65_6 (k : Nat) (g3 : Y0_5) (g6 : (List Y0_1) → (List (PN Bool 24)) → Int → Int → Int → Int → Bool → (List Y0_0) → Int → Int → Int → Int → Option Y0_8) (l_2 : List Y0_1) (out1 : List (PN Bool 24)) (n : Int) (p : Int) (p1 : Int) (p2 : Int) (p3 : Bool) (t11_1 : List Y0_0) (t12_1 : Int) (t13_1 : Int) (t19 : Int) (t20 : Int) : Option Y0_8 :=
 (bif decide (t20 < t19) then
  (bif decide (n < 24) then
   (S93 k (p, p1, p2, p3) t20).bind fun q1 =>
   (bif q1.1.1 then
    ix out1 t20 <|
    ax 24 n <|
    g6 l_2 (upd out1 t20 (aset (α := Bool) 24 (rd out1 t20 (prep (α := Bool) 24 false)) n true)) n p p1 p2 p3 t11_1 t12_1 t13_1 t19 (IntKind.i64.wrap (t20 + 1))
   else
    g6 l_2 out1 n p p1 p2 p3 t11_1 t12_1 t13_1 t19 (IntKind.i64.wrap (t20 + 1)))
  else
   g6 l_2 out1 n p p1 p2 p3 t11_1 t12_1 t13_1 t19 (IntKind.i64.wrap (t20 + 1)))
 else
  g3 l_2 out1 t11_1 t12_1 (IntKind.i64.wrap (t13_1 + 1)))
noncomputable def b65_6 (k : Nat) (g3 : Y0_5) (g : ((Unit) × (List Y0_1) × (List (PN Bool 24)) × Int × Y0_9 × (List Y0_0) × Int × Int × Int × Int × Unit) → Option Y0_8) (d : (Unit) × (List Y0_1) × (List (PN Bool 24)) × Int × Y0_9 × (List Y0_0) × Int × Int × Int × Int × Unit) : Option Y0_8 := l65_6 k g3 (fun l_2 out1 n p p1 p2 p3 t11_1 t12_1 t13_1 t19 t20 => g ((), l_2, out1, n, (p, p1, p2, p3, ()), t11_1, t12_1, t13_1, t19, t20, ())) d.2.1 d.2.2.1 d.2.2.2.1 d.2.2.2.2.1.1 d.2.2.2.2.1.2.1 d.2.2.2.2.1.2.2.1 d.2.2.2.2.1.2.2.2.1 d.2.2.2.2.2.1 d.2.2.2.2.2.2.1 d.2.2.2.2.2.2.2.1 d.2.2.2.2.2.2.2.2.1 d.2.2.2.2.2.2.2.2.2.1
noncomputable def L65_6 (k : Nat) (g3 : Y0_5) (j : Nat) (l_2 : List Y0_1) (out1 : List (PN Bool 24)) (n : Int) (p : Int) (p1 : Int) (p2 : Int) (p3 : Bool) (t11_1 : List Y0_0) (t12_1 : Int) (t13_1 : Int) (t19 : Int) (t20 : Int) : Option Y0_8 := iter (R := ((List (PN Bool 24)) × Unit) × Unit) c65_L6 (b65_6 k g3) j ((), l_2, out1, n, (p, p1, p2, p3, ()), t11_1, t12_1, t13_1, t19, t20, ())
theorem L65_6_s (k : Nat) (g3 : Y0_5) (j : Nat) (l_2 : List Y0_1) (out1 : List (PN Bool 24)) (n : Int) (p : Int) (p1 : Int) (p2 : Int) (p3 : Bool) (t11_1 : List Y0_0) (t12_1 : Int) (t13_1 : Int) (t19 : Int) (t20 : Int) : L65_6 k g3 (j + 1) l_2 out1 n p p1 p2 p3 t11_1 t12_1 t13_1 t19 t20 = l65_6 k g3 (L65_6 k g3 j) l_2 out1 n p p1 p2 p3 t11_1 t12_1 t13_1 t19 t20 := iter_succ _ _ _ _
noncomputable abbrev c65_L3 : Cut := ⟨[0, 3, 11, 12, 13], [.cell Y0_11, .own 134 (arrT 24 .bool), .own 169 Y0_4, .cell (.int .i64), .cell (.int .i64)], [], 38⟩
noncomputable def l65_3 (k : Nat) (g3 : Y0_5) (l_1 : List Y0_1) (out : List (PN Bool 24)) (t11 : List Y0_0) (t12 : Int) (t13 : Int) : Option Y0_8 :=
 (bif decide (t13 < t12) then
  ix t11 t13 <|
  L65_6 k g3 k l_1 out t13 (rd t11 t13 (0, 0, 0, false)).1 (rd t11 t13 (0, 0, 0, false)).2.1 (rd t11 t13 (0, 0, 0, false)).2.2.1 (rd t11 t13 (0, 0, 0, false)).2.2.2 t11 t12 t13 (l_1.length : Int) 0
 else
  some ((out, ()), ()))
noncomputable def b65_3 (k : Nat) (g : ((Unit) × (List Y0_1) × (List (PN Bool 24)) × (List Y0_0) × Int × Int × Unit) → Option Y0_8) (d : (Unit) × (List Y0_1) × (List (PN Bool 24)) × (List Y0_0) × Int × Int × Unit) : Option Y0_8 := l65_3 k (fun l_1 out t11 t12 t13 => g ((), l_1, out, t11, t12, t13, ())) d.2.1 d.2.2.1 d.2.2.2.1 d.2.2.2.2.1 d.2.2.2.2.2.1
noncomputable def L65_3 (k : Nat) (j : Nat) (l_1 : List Y0_1) (out : List (PN Bool 24)) (t11 : List Y0_0) (t12 : Int) (t13 : Int) : Option Y0_8 := iter (R := ((List (PN Bool 24)) × Unit) × Unit) c65_L3 (b65_3 k) j ((), l_1, out, t11, t12, t13, ())
theorem L65_3_s (k : Nat) (j : Nat) (l_1 : List Y0_1) (out : List (PN Bool 24)) (t11 : List Y0_0) (t12 : Int) (t13 : Int) : L65_3 k (j + 1) l_1 out t11 t12 t13 = l65_3 k (L65_3 k j) l_1 out t11 t12 t13 := iter_succ _ _ _ _
noncomputable def S65 (k : Nat) (l_ : List Y0_1) : Option Y0_8 :=
 mk (l_.length : Int) (l_.length : Int) 24 <|
 (S92 k l_).bind fun q0 =>
 L65_3 k k l_ (List.replicate (l_.length : Int).toNat (prep (α := Bool) 24 false : PN Bool 24)) q0.1.1 (q0.1.1.length : Int) 0
noncomputable def E65 : Env := tab.env (lk [(92, F92), (93, F93)]) (hintL [])
theorem E65_ok : EnvOK Try.prog E65 := envOK_of tabOK _ _ (allFn_lk (l := [(92, F92), (93, F93)]) ⟨ok92, ok93, trivial⟩)
noncomputable def B65 (k : Nat) : Tbl (RD R65 × MD P65) := (.loop 3 c65_L3 (b65_3 k) (fun g => (fun (g3 : Y0_5) => (.loop 6 c65_L6 (b65_6 k g3) (fun g => .nil) .nil)) (fun l_1 out t11 t12 t13 => g ((), l_1, out, t11, t12, t13, ()))) .nil)
noncomputable def F65 : Fn := ⟨P65, R65, fun k x => S65 k x.1⟩
theorem ok65 : FnOK Try.prog 65 F65 := evalF_ok (E := E65) (T := B65) E65_ok mix Try.func65 rfl (by kernel_rfl) (by kernel_rfl) (fun k => by kernel_rfl) (fun k x => by kernel_rfl)
noncomputable abbrev P97 : List PT := [.val ⟨false, (.int .i64), false⟩, .pv (.ref Y0_11), .pv (.ref (.int .i64))]
noncomputable abbrev R97 : List RT := [.val ⟨false, .bool, true⟩]
noncomputable def S97 (k : Nat) (k_ : Int) (x1 : List Y0_1) (x2 : Int) : Option Y0_6 :=
 ix x1 k_ <|
 ix x1 x2 <|
 some (((rd x1 k_ (0, 0, 0, 0)).2.1 == (rd x1 x2 (0, 0, 0, 0)).2.1, ()), ())
noncomputable def E97 : Env := tab.env (lk []) (hintL [])
theorem E97_ok : EnvOK Try.prog E97 := envOK_of tabOK _ _ (fun f F h => by cases h)
noncomputable def B97 (k : Nat) : Tbl (RD R97 × MD P97) := .nil
noncomputable def F97 : Fn := ⟨P97, R97, fun k x => S97 k x.1 x.2.1 x.2.2.1⟩
theorem ok97 : FnOK Try.prog 97 F97 := evalF_ok (E := E97) (T := B97) E97_ok mix Try.func97 rfl (by kernel_rfl) (by kernel_rfl) (fun k => by kernel_rfl) (fun k x => by kernel_rfl)
noncomputable abbrev P98a : List PT := [.val ⟨false, (.sl 3 (.int .i64)), false⟩, .pv (.clo 97 [.ref Y0_11, .ref (.int .i64)])]
noncomputable abbrev R98a : List RT := [.val ⟨false, (.int .i64), true⟩]
noncomputable abbrev c98a_L2 : Cut := ⟨[0, 1, 7, 8], [.cell (.sl 3 (.int .i64)), .clo 97 [.ref Y0_11, .ref (.int .i64)], .cell (.int .i64), .cell (.int .i64)], [], 19⟩
noncomputable def l98a_2 (k : Nat) (g2 : (List Int) → (List Y0_1) → Int → Int → Int → Option Y0_7) (s1 : List Int) (f2 : List Y0_1) (f3 : Int) (t7 : Int) (t8 : Int) : Option Y0_7 :=
 (bif decide (t8 < t7) then
  ix s1 t8 <|
  (S97 k (rd s1 t8 0) f2 f3).bind fun q0 =>
  (bif q0.1.1 then
   some ((t8, ()), ())
  else
   g2 s1 f2 f3 t7 (IntKind.i64.wrap (t8 + 1)))
 else
  some (((-1), ()), ()))
noncomputable def b98a_2 (k : Nat) (g : ((Unit) × (List Int) × ((List Y0_1) × Int × Unit) × Int × Int × Unit) → Option Y0_7) (d : (Unit) × (List Int) × ((List Y0_1) × Int × Unit) × Int × Int × Unit) : Option Y0_7 := l98a_2 k (fun s1 f2 f3 t7 t8 => g ((), s1, (f2, f3, ()), t7, t8, ())) d.2.1 d.2.2.1.1 d.2.2.1.2.1 d.2.2.2.1 d.2.2.2.2.1
noncomputable def L98a_2 (k : Nat) (j : Nat) (s1 : List Int) (f2 : List Y0_1) (f3 : Int) (t7 : Int) (t8 : Int) : Option Y0_7 := iter (R := (Int × Unit) × Unit) c98a_L2 (b98a_2 k) j ((), s1, (f2, f3, ()), t7, t8, ())
theorem L98a_2_s (k : Nat) (j : Nat) (s1 : List Int) (f2 : List Y0_1) (f3 : Int) (t7 : Int) (t8 : Int) : L98a_2 k (j + 1) s1 f2 f3 t7 t8 = l98a_2 k (L98a_2 k j) s1 f2 f3 t7 t8 := iter_succ _ _ _ _
noncomputable def S98a (k : Nat) (s : List Int) (f : List Y0_1) (f1 : Int) : Option Y0_7 :=
 L98a_2 k k s f f1 (s.length : Int) 0
noncomputable def E98a : Env := tab.env (lk [(97, F97)]) (hintL [])
theorem E98a_ok : EnvOK Try.prog E98a := envOK_of tabOK _ _ (allFn_lk (l := [(97, F97)]) ⟨ok97, trivial⟩)
noncomputable def B98a (k : Nat) : Tbl (RD R98a × MD P98a) := (.loop 2 c98a_L2 (b98a_2 k) (fun g => .nil) .nil)
noncomputable def F98a : Fn := ⟨P98a, R98a, fun k x => S98a k x.1 x.2.1.1 x.2.1.2.1⟩
theorem ok98a : FnOK Try.prog 98 F98a := evalF_ok (E := E98a) (T := B98a) E98a_ok mix Try.func98 rfl (by kernel_rfl) (by kernel_rfl) (fun k => by kernel_rfl) (fun k x => by kernel_rfl)
noncomputable abbrev P66a : List PT := [.val ⟨false, (.sl 3 (.int .i64)), false⟩, .pv (.clo 97 [.ref Y0_11, .ref (.int .i64)])]
noncomputable abbrev R66a : List RT := [.val ⟨false, .bool, true⟩]
noncomputable def S66a (k : Nat) (s : List Int) (f : List Y0_1) (f1 : Int) : Option Y0_6 :=
 (S98a k s f f1).bind fun q0 =>
 some ((decide (q0.1.1 ≥ 0), ()), ())
noncomputable def E66a : Env := tab.env (lk [(98, F98a)]) (hintL [])
theorem E66a_ok : EnvOK Try.prog E66a := envOK_of tabOK _ _ (allFn_lk (l := [(98, F98a)]) ⟨ok98a, trivial⟩)
noncomputable def B66a (k : Nat) : Tbl (RD R66a × MD P66a) := .nil
noncomputable def F66a : Fn := ⟨P66a, R66a, fun k x => S66a k x.1 x.2.1.1 x.2.1.2.1⟩
theorem ok66a : FnOK Try.prog 66 F66a := evalF_ok (E := E66a) (T := B66a) E66a_ok mix Try.func66 rfl (by kernel_rfl) (by kernel_rfl) (fun k => by kernel_rfl) (fun k x => by kernel_rfl)
end Go.Proofs.Ytnlfdfjkgaanjaa.Ab
