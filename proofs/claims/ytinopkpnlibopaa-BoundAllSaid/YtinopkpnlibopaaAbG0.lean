import Derived.Test.YtinopkpnlibopaaPbC
/- Contracts, printed by this session's own program gen.py. -/
set_option linter.unusedVariables false
set_option linter.unusedSimpArgs false
set_option maxRecDepth 100000
namespace Go.Proofs.Ytinopkpnlibopaa.Ab
open Go.RowKit
abbrev Y0_0 : Type := Int × Int × Int × Bool
abbrev Y0_1 : Type := Int × Int × Int × Int
abbrev Y0_2 : Ty := .pair (.int .i64) (.pair (.int .i64) (.pair (.int .i64) (.int .i64)))
abbrev Y0_3 : Type := (List Y0_1) → (List Y0_0) → (List Int) → (List Y0_0) → Int → Int → Option ((Bool × Unit) × Unit)
abbrev Y0_4 : Ty := .pair (.int .i64) (.pair (.int .i64) (.pair (.int .i64) .bool))
abbrev Y0_5 : Type := (List Y0_1) → (List (PN Bool 24)) → (List Y0_0) → Int → Int → Option (((List (PN Bool 24)) × Unit) × Unit)
abbrev Y0_6 : Type := (Bool × Unit) × Unit
abbrev Y0_7 : Type := (Int × Unit) × Unit
abbrev Y0_8 : Type := ((List (PN Bool 24)) × Unit) × Unit
abbrev Y0_9 : Type := Int × Int × Int × Bool × Unit
abbrev Y0_10 : Type := ((List Y0_0) × Unit) × Unit
abbrev Y0_11 : Ty := .sl 60 Y0_2
noncomputable abbrev P100 : List PT := [.val ⟨false, (.int .i64), false⟩]
noncomputable abbrev R100 : List RT := [.val ⟨false, .bool, true⟩]
noncomputable def S100 (k : Nat) (a : Int) : Option Y0_6 :=
 (bif decide (a ≥ 0) then
  some ((decide (a < 8), ()), ())
 else
  some ((false, ()), ()))
noncomputable def E100 : Env := tab.env (lk []) (hintL [])
theorem E100_ok : EnvOK Try.prog E100 := envOK_of tabOK _ _ (fun f F h => by cases h)
noncomputable def B100 (k : Nat) : Tbl (RD R100 × MD P100) := .nil
noncomputable def F100 : Fn := ⟨P100, R100, fun k x => S100 k x.1⟩
theorem ok100 : FnOK Try.prog 100 F100 := evalF_ok (E := E100) (T := B100) E100_ok mix Try.func100 rfl (by kernel_rfl) (by kernel_rfl) (fun k => by kernel_rfl) (fun k x => by kernel_rfl)
noncomputable abbrev P101 : List PT := [.val ⟨false, (.int .i64), false⟩, .val ⟨false, (.int .i64), false⟩, .val ⟨false, (.int .i64), false⟩]
noncomputable abbrev R101 : List RT := [.val ⟨false, .bool, true⟩]
noncomputable def S101 (k : Nat) (v : Int) (from_ : Int) (to_ : Int) : Option Y0_6 :=
 (bif decide (v ≥ from_) then
  some ((decide (v ≤ to_), ()), ())
 else
  some ((false, ()), ()))
noncomputable def E101 : Env := tab.env (lk []) (hintL [])
theorem E101_ok : EnvOK Try.prog E101 := envOK_of tabOK _ _ (fun f F h => by cases h)
noncomputable def B101 (k : Nat) : Tbl (RD R101 × MD P101) := .nil
noncomputable def F101 : Fn := ⟨P101, R101, fun k x => S101 k x.1 x.2.1 x.2.2.1⟩
theorem ok101 : FnOK Try.prog 101 F101 := evalF_ok (E := E101) (T := B101) E101_ok mix Try.func101 rfl (by kernel_rfl) (by kernel_rfl) (fun k => by kernel_rfl) (fun k x => by kernel_rfl)
noncomputable abbrev P88 : List PT := [.val ⟨true, Y0_2, false⟩]
noncomputable abbrev R88 : List RT := [.val ⟨false, .bool, true⟩]
noncomputable def S88 (k : Nat) (i : Int × Int × Int × Int) : Option Y0_6 :=
 (bif i.1 == 0 then
  (bif i.2.1 == 0 then
   (bif i.2.2.1 == 0 then
    some ((i.2.2.2 == 0, ()), ())
   else
    some ((false, ()), ()))
  else
   some ((false, ()), ()))
 else
  (bif i.1 == 11 then
   (bif i.2.1 == 0 then
    (bif i.2.2.1 == 0 then
     some ((i.2.2.2 == 0, ()), ())
    else
     some ((false, ()), ()))
   else
    some ((false, ()), ()))
  else
   (bif i.1 == 1 then
    (S100 k i.2.1).bind fun q0 =>
    (bif q0.1.1 then
     (bif i.2.2.1 == 0 then
      (S101 k i.2.2.2 (-2147483648) 2147483647).bind fun q1 =>
      some ((q1.1.1, ()), ())
     else
      some ((false, ()), ()))
    else
     some ((false, ()), ()))
   else
    (bif i.1 == 2 then
     (S100 k i.2.1).bind fun q2 =>
     (bif q2.1.1 then
      (S100 k i.2.2.1).bind fun q3 =>
      (bif q3.1.1 then
       some ((i.2.2.2 == 0, ()), ())
      else
       some ((false, ()), ()))
     else
      some ((false, ()), ()))
    else
     (bif i.1 == 3 then
      (S100 k i.2.1).bind fun q4 =>
      (bif q4.1.1 then
       (S100 k i.2.2.1).bind fun q5 =>
       (bif q5.1.1 then
        some ((i.2.2.2 == 0, ()), ())
       else
        some ((false, ()), ()))
      else
       some ((false, ()), ()))
     else
      (bif i.1 == 4 then
       (S100 k i.2.1).bind fun q6 =>
       (bif q6.1.1 then
        (S100 k i.2.2.1).bind fun q7 =>
        (bif q7.1.1 then
         some ((i.2.2.2 == 0, ()), ())
        else
         some ((false, ()), ()))
       else
        some ((false, ()), ()))
      else
       (bif i.1 == 5 then
        (S100 k i.2.1).bind fun q8 =>
        (bif q8.1.1 then
         (bif i.2.2.1 == 0 then
          (S101 k i.2.2.2 (-63) 63).bind fun q9 =>
          some ((q9.1.1, ()), ())
         else
          some ((false, ()), ()))
        else
         some ((false, ()), ()))
       else
        (bif i.1 == 6 then
         (S100 k i.2.1).bind fun q10 =>
         (bif q10.1.1 then
          (bif i.2.2.1 == 0 then
           (S101 k i.2.2.2 1 64).bind fun q11 =>
           some ((q11.1.1, ()), ())
          else
           some ((false, ()), ()))
         else
          some ((false, ()), ()))
        else
         (bif i.1 == 7 then
          (S100 k i.2.1).bind fun q12 =>
          (bif q12.1.1 then
           (bif i.2.2.1 == 0 then
            (S101 k i.2.2.2 1 24).bind fun q13 =>
            some ((q13.1.1, ()), ())
           else
            some ((false, ()), ()))
          else
           some ((false, ()), ()))
         else
          (bif i.1 == 8 then
           (bif i.2.1 == 0 then
            (S101 k i.2.2.1 1 24).bind fun q14 =>
            (bif q14.1.1 then
             (S101 k i.2.2.2 1 20).bind fun q15 =>
             some ((q15.1.1, ()), ())
            else
             some ((false, ()), ()))
           else
            some ((false, ()), ()))
          else
           (bif i.1 == 9 then
            (S101 k i.2.1 0 3).bind fun q16 =>
            (bif q16.1.1 then
             (bif i.2.2.1 == 0 then
              some ((i.2.2.2 == 0, ()), ())
             else
              some ((false, ()), ()))
            else
             some ((false, ()), ()))
           else
            (bif i.1 == 10 then
             (S101 k i.2.1 0 3).bind fun q17 =>
             (bif q17.1.1 then
              (bif i.2.2.1 == 0 then
               some ((i.2.2.2 == 0, ()), ())
              else
               some ((false, ()), ()))
             else
              some ((false, ()), ()))
            else
             some ((false, ()), ())))))))))))))
noncomputable def E88 : Env := tab.env (lk [(100, F100), (101, F101)]) (hintL [])
theorem E88_ok : EnvOK Try.prog E88 := envOK_of tabOK _ _ (allFn_lk (l := [(100, F100), (101, F101)]) ⟨ok100, ok101, trivial⟩)
noncomputable def B88 (k : Nat) : Tbl (RD R88 × MD P88) := .nil
noncomputable def F88 : Fn := ⟨P88, R88, fun k x => S88 k x.1⟩
theorem ok88 : FnOK Try.prog 88 F88 := evalF_ok (E := E88) (T := B88) E88_ok mix Try.func88 rfl (by kernel_rfl) (by kernel_rfl) (fun k => by kernel_rfl) (fun k x => by kernel_rfl)
noncomputable abbrev P87 : List PT := [.val ⟨true, Y0_2, false⟩]
noncomputable abbrev R87 : List RT := [.val ⟨false, .bool, true⟩]
noncomputable def S87 (k : Nat) (i : Int × Int × Int × Int) : Option Y0_6 :=
 (S88 k i).bind fun q0 =>
 some ((!q0.1.1, ()), ())
noncomputable def E87 : Env := tab.env (lk [(88, F88)]) (hintL [])
theorem E87_ok : EnvOK Try.prog E87 := envOK_of tabOK _ _ (allFn_lk (l := [(88, F88)]) ⟨ok88, trivial⟩)
noncomputable def B87 (k : Nat) : Tbl (RD R87 × MD P87) := .nil
noncomputable def F87 : Fn := ⟨P87, R87, fun k x => S87 k x.1⟩
theorem ok87 : FnOK Try.prog 87 F87 := evalF_ok (E := E87) (T := B87) E87_ok mix Try.func87 rfl (by kernel_rfl) (by kernel_rfl) (fun k => by kernel_rfl) (fun k x => by kernel_rfl)
noncomputable abbrev P89 : List PT := [.val ⟨false, Y0_11, false⟩, .pv (.clo 87 [])]
noncomputable abbrev R89 : List RT := [.val ⟨false, (.int .i64), true⟩]
noncomputable abbrev c89_L2 : Cut := ⟨[0, 1, 7, 8], [.cell Y0_11, .clo 87 [], .cell (.int .i64), .cell (.int .i64)], [], 19⟩
noncomputable def l89_2 (k : Nat) (g2 : (List Y0_1) → Int → Int → Option Y0_7) (s1 : List Y0_1) (t7 : Int) (t8 : Int) : Option Y0_7 :=
 (bif decide (t8 < t7) then
  ix s1 t8 <|
  (S87 k (rd s1 t8 (0, 0, 0, 0))).bind fun q0 =>
  (bif q0.1.1 then
   some ((t8, ()), ())
  else
   g2 s1 t7 (IntKind.i64.wrap (t8 + 1)))
 else
  some (((-1), ()), ()))
noncomputable def b89_2 (k : Nat) (g : ((Unit) × (List Y0_1) × Unit × Int × Int × Unit) → Option Y0_7) (d : (Unit) × (List Y0_1) × Unit × Int × Int × Unit) : Option Y0_7 := l89_2 k (fun s1 t7 t8 => g ((), s1, (), t7, t8, ())) d.2.1 d.2.2.2.1 d.2.2.2.2.1
noncomputable def L89_2 (k : Nat) (j : Nat) (s1 : List Y0_1) (t7 : Int) (t8 : Int) : Option Y0_7 := iter (R := (Int × Unit) × Unit) c89_L2 (b89_2 k) j ((), s1, (), t7, t8, ())
theorem L89_2_s (k : Nat) (j : Nat) (s1 : List Y0_1) (t7 : Int) (t8 : Int) : L89_2 k (j + 1) s1 t7 t8 = l89_2 k (L89_2 k j) s1 t7 t8 := iter_succ _ _ _ _
noncomputable def S89 (k : Nat) (s : List Y0_1) : Option Y0_7 :=
 L89_2 k k s (s.length : Int) 0
noncomputable def E89 : Env := tab.env (lk [(87, F87)]) (hintL [])
theorem E89_ok : EnvOK Try.prog E89 := envOK_of tabOK _ _ (allFn_lk (l := [(87, F87)]) ⟨ok87, trivial⟩)
noncomputable def B89 (k : Nat) : Tbl (RD R89 × MD P89) := (.loop 2 c89_L2 (b89_2 k) (fun g => .nil) .nil)
noncomputable def F89 : Fn := ⟨P89, R89, fun k x => S89 k x.1⟩
theorem ok89 : FnOK Try.prog 89 F89 := evalF_ok (E := E89) (T := B89) E89_ok mix Try.func89 rfl (by kernel_rfl) (by kernel_rfl) (fun k => by kernel_rfl) (fun k x => by kernel_rfl)
noncomputable abbrev P79 : List PT := [.val ⟨false, Y0_11, false⟩, .pv (.clo 87 [])]
noncomputable abbrev R79 : List RT := [.val ⟨false, .bool, true⟩]
noncomputable def S79 (k : Nat) (s : List Y0_1) : Option Y0_6 :=
 (S89 k s).bind fun q0 =>
 some ((decide (q0.1.1 ≥ 0), ()), ())
noncomputable def E79 : Env := tab.env (lk [(89, F89)]) (hintL [])
theorem E79_ok : EnvOK Try.prog E79 := envOK_of tabOK _ _ (allFn_lk (l := [(89, F89)]) ⟨ok89, trivial⟩)
noncomputable def B79 (k : Nat) : Tbl (RD R79 × MD P79) := .nil
noncomputable def F79 : Fn := ⟨P79, R79, fun k x => S79 k x.1⟩
theorem ok79 : FnOK Try.prog 79 F79 := evalF_ok (E := E79) (T := B79) E79_ok mix Try.func79 rfl (by kernel_rfl) (by kernel_rfl) (fun k => by kernel_rfl) (fun k x => by kernel_rfl)
noncomputable abbrev P90 : List PT := [.val ⟨true, Y0_2, false⟩]
noncomputable abbrev R90 : List RT := [.val ⟨false, .bool, true⟩]
noncomputable def S90 (k : Nat) (i : Int × Int × Int × Int) : Option Y0_6 :=
 some ((i.1 == 0, ()), ())
noncomputable def E90 : Env := tab.env (lk []) (hintL [])
theorem E90_ok : EnvOK Try.prog E90 := envOK_of tabOK _ _ (fun f F h => by cases h)
noncomputable def B90 (k : Nat) : Tbl (RD R90 × MD P90) := .nil
noncomputable def F90 : Fn := ⟨P90, R90, fun k x => S90 k x.1⟩
theorem ok90 : FnOK Try.prog 90 F90 := evalF_ok (E := E90) (T := B90) E90_ok mix Try.func90 rfl (by kernel_rfl) (by kernel_rfl) (fun k => by kernel_rfl) (fun k x => by kernel_rfl)
noncomputable abbrev P89a : List PT := [.val ⟨false, Y0_11, false⟩, .pv (.clo 90 [])]
noncomputable abbrev R89a : List RT := [.val ⟨false, (.int .i64), true⟩]
noncomputable abbrev c89a_L2 : Cut := ⟨[0, 1, 7, 8], [.cell Y0_11, .clo 90 [], .cell (.int .i64), .cell (.int .i64)], [], 19⟩
noncomputable def l89a_2 (k : Nat) (g2 : (List Y0_1) → Int → Int → Option Y0_7) (s1 : List Y0_1) (t7 : Int) (t8 : Int) : Option Y0_7 :=
 (bif decide (t8 < t7) then
  ix s1 t8 <|
  (S90 k (rd s1 t8 (0, 0, 0, 0))).bind fun q0 =>
  (bif q0.1.1 then
   some ((t8, ()), ())
  else
   g2 s1 t7 (IntKind.i64.wrap (t8 + 1)))
 else
  some (((-1), ()), ()))
noncomputable def b89a_2 (k : Nat) (g : ((Unit) × (List Y0_1) × Unit × Int × Int × Unit) → Option Y0_7) (d : (Unit) × (List Y0_1) × Unit × Int × Int × Unit) : Option Y0_7 := l89a_2 k (fun s1 t7 t8 => g ((), s1, (), t7, t8, ())) d.2.1 d.2.2.2.1 d.2.2.2.2.1
noncomputable def L89a_2 (k : Nat) (j : Nat) (s1 : List Y0_1) (t7 : Int) (t8 : Int) : Option Y0_7 := iter (R := (Int × Unit) × Unit) c89a_L2 (b89a_2 k) j ((), s1, (), t7, t8, ())
theorem L89a_2_s (k : Nat) (j : Nat) (s1 : List Y0_1) (t7 : Int) (t8 : Int) : L89a_2 k (j + 1) s1 t7 t8 = l89a_2 k (L89a_2 k j) s1 t7 t8 := iter_succ _ _ _ _
noncomputable def S89a (k : Nat) (s : List Y0_1) : Option Y0_7 :=
 L89a_2 k k s (s.length : Int) 0
noncomputable def E89a : Env := tab.env (lk [(90, F90)]) (hintL [])
theorem E89a_ok : EnvOK Try.prog E89a := envOK_of tabOK _ _ (allFn_lk (l := [(90, F90)]) ⟨ok90, trivial⟩)
noncomputable def B89a (k : Nat) : Tbl (RD R89a × MD P89a) := (.loop 2 c89a_L2 (b89a_2 k) (fun g => .nil) .nil)
noncomputable def F89a : Fn := ⟨P89a, R89a, fun k x => S89a k x.1⟩
theorem ok89a : FnOK Try.prog 89 F89a := evalF_ok (E := E89a) (T := B89a) E89a_ok mix Try.func89 rfl (by kernel_rfl) (by kernel_rfl) (fun k => by kernel_rfl) (fun k x => by kernel_rfl)
noncomputable abbrev P102 : List PT := [.val ⟨false, Y0_11, false⟩]
noncomputable abbrev R102 : List RT := [.val ⟨false, (.sl 135 Y0_4), true⟩]
noncomputable abbrev c102_L2 : Cut := ⟨[2, 5, 6, 7], [.own 135 Y0_4, .cell Y0_11, .cell (.int .i64), .cell (.int .i64)], [], 42⟩
noncomputable def l102_2 (k : Nat) (g2 : (List Y0_0) → (List Y0_1) → Int → Int → Option Y0_10) (out : List Y0_0) (t5 : List Y0_1) (t6 : Int) (t7 : Int) : Option Y0_10 :=
 (bif decide (t7 < t6) then
  ix t5 t7 <|
  (bif (rd t5 t7 (0, 0, 0, 0)).1 == 8 then
   ap out ([(IntKind.i64.wrap (t7 + 1), IntKind.i64.wrap (t7 + (rd t5 t7 (0, 0, 0, 0)).2.2.1), t7, true)] : List Y0_0) 32 fun r0 =>
   g2 r0 t5 t6 (IntKind.i64.wrap (t7 + 1))
  else
   (bif (rd t5 t7 (0, 0, 0, 0)).1 == 7 then
    ap out ([(IntKind.i64.wrap (t7 + 1), IntKind.i64.wrap (t7 + (rd t5 t7 (0, 0, 0, 0)).2.2.2), t7, false)] : List Y0_0) 32 fun r1 =>
    g2 r1 t5 t6 (IntKind.i64.wrap (t7 + 1))
   else
    g2 out t5 t6 (IntKind.i64.wrap (t7 + 1))))
 else
  some ((out, ()), ()))
noncomputable def b102_2 (k : Nat) (g : ((Unit) × (List Y0_0) × (List Y0_1) × Int × Int × Unit) → Option Y0_10) (d : (Unit) × (List Y0_0) × (List Y0_1) × Int × Int × Unit) : Option Y0_10 := l102_2 k (fun out t5 t6 t7 => g ((), out, t5, t6, t7, ())) d.2.1 d.2.2.1 d.2.2.2.1 d.2.2.2.2.1
noncomputable def L102_2 (k : Nat) (j : Nat) (out : List Y0_0) (t5 : List Y0_1) (t6 : Int) (t7 : Int) : Option Y0_10 := iter (R := ((List Y0_0) × Unit) × Unit) c102_L2 (b102_2 k) j ((), out, t5, t6, t7, ())
theorem L102_2_s (k : Nat) (j : Nat) (out : List Y0_0) (t5 : List Y0_1) (t6 : Int) (t7 : Int) : L102_2 k (j + 1) out t5 t6 t7 = l102_2 k (L102_2 k j) out t5 t6 t7 := iter_succ _ _ _ _
noncomputable def S102 (k : Nat) (l_ : List Y0_1) : Option Y0_10 :=
 L102_2 k k ([] : List Y0_0) l_ (l_.length : Int) 0
noncomputable def E102 : Env := tab.env (lk []) (hintL [(2, 2)])
theorem E102_ok : EnvOK Try.prog E102 := envOK_of tabOK _ _ (fun f F h => by cases h)
noncomputable def B102 (k : Nat) : Tbl (RD R102 × MD P102) := (.loop 2 c102_L2 (b102_2 k) (fun g => .nil) .nil)
noncomputable def F102 : Fn := ⟨P102, R102, fun k x => S102 k x.1⟩
theorem ok102 : FnOK Try.prog 102 F102 := evalF_ok (E := E102) (T := B102) E102_ok mix Try.func102 rfl (by kernel_rfl) (by kernel_rfl) (fun k => by kernel_rfl) (fun k x => by kernel_rfl)
noncomputable abbrev P103 : List PT := [.val ⟨true, Y0_4, false⟩, .val ⟨false, (.int .i64), false⟩]
noncomputable abbrev R103 : List RT := [.val ⟨false, .bool, true⟩]
noncomputable def S103 (k : Nat) (p : Int × Int × Int × Bool) (i : Int) : Option Y0_6 :=
 (bif decide (i ≥ p.1) then
  some ((decide (i ≤ p.2.1), ()), ())
 else
  some ((false, ()), ()))
noncomputable def E103 : Env := tab.env (lk []) (hintL [])
theorem E103_ok : EnvOK Try.prog E103 := envOK_of tabOK _ _ (fun f F h => by cases h)
noncomputable def B103 (k : Nat) : Tbl (RD R103 × MD P103) := .nil
noncomputable def F103 : Fn := ⟨P103, R103, fun k x => S103 k x.1 x.2.1⟩
theorem ok103 : FnOK Try.prog 103 F103 := evalF_ok (E := E103) (T := B103) E103_ok mix Try.func103 rfl (by kernel_rfl) (by kernel_rfl) (fun k => by kernel_rfl) (fun k x => by kernel_rfl)
noncomputable abbrev P104 : List PT := [.val ⟨true, Y0_4, false⟩, .val ⟨true, Y0_4, false⟩]
noncomputable abbrev R104 : List RT := [.val ⟨false, .bool, true⟩]
noncomputable def S104 (k : Nat) (p : Int × Int × Int × Bool) (q_ : Int × Int × Int × Bool) : Option Y0_6 :=
 (S103 k q_ p.1).bind fun q0 =>
 (bif q0.1.1 then
  (S103 k q_ p.2.1).bind fun q1 =>
  some ((q1.1.1, ()), ())
 else
  some ((false, ()), ()))
noncomputable def E104 : Env := tab.env (lk [(103, F103)]) (hintL [])
theorem E104_ok : EnvOK Try.prog E104 := envOK_of tabOK _ _ (allFn_lk (l := [(103, F103)]) ⟨ok103, trivial⟩)
noncomputable def B104 (k : Nat) : Tbl (RD R104 × MD P104) := .nil
noncomputable def F104 : Fn := ⟨P104, R104, fun k x => S104 k x.1 x.2.1⟩
theorem ok104 : FnOK Try.prog 104 F104 := evalF_ok (E := E104) (T := B104) E104_ok mix Try.func104 rfl (by kernel_rfl) (by kernel_rfl) (fun k => by kernel_rfl) (fun k x => by kernel_rfl)
noncomputable abbrev P105 : List PT := [.val ⟨true, Y0_4, false⟩, .val ⟨true, Y0_4, false⟩]
noncomputable abbrev R105 : List RT := [.val ⟨false, .bool, true⟩]
noncomputable def S105 (k : Nat) (p : Int × Int × Int × Bool) (q_ : Int × Int × Int × Bool) : Option Y0_6 :=
 (bif decide (p.2.1 < q_.1) then
  some ((true, ()), ())
 else
  some ((decide (q_.2.1 < p.1), ()), ()))
noncomputable def E105 : Env := tab.env (lk []) (hintL [])
theorem E105_ok : EnvOK Try.prog E105 := envOK_of tabOK _ _ (fun f F h => by cases h)
noncomputable def B105 (k : Nat) : Tbl (RD R105 × MD P105) := .nil
noncomputable def F105 : Fn := ⟨P105, R105, fun k x => S105 k x.1 x.2.1⟩
theorem ok105 : FnOK Try.prog 105 F105 := evalF_ok (E := E105) (T := B105) E105_ok mix Try.func105 rfl (by kernel_rfl) (by kernel_rfl) (fun k => by kernel_rfl) (fun k x => by kernel_rfl)
noncomputable abbrev P106 : List PT := [.val ⟨false, (.int .i64), false⟩]
noncomputable abbrev R106 : List RT := [.val ⟨false, .bool, true⟩]
noncomputable def S106 (k : Nat) (n : Int) : Option Y0_6 :=
 some ((decide (n > 2), ()), ())
noncomputable def E106 : Env := tab.env (lk []) (hintL [])
theorem E106_ok : EnvOK Try.prog E106 := envOK_of tabOK _ _ (fun f F h => by cases h)
noncomputable def B106 (k : Nat) : Tbl (RD R106 × MD P106) := .nil
noncomputable def F106 : Fn := ⟨P106, R106, fun k x => S106 k x.1⟩
theorem ok106 : FnOK Try.prog 106 F106 := evalF_ok (E := E106) (T := B106) E106_ok mix Try.func106 rfl (by kernel_rfl) (by kernel_rfl) (fun k => by kernel_rfl) (fun k x => by kernel_rfl)
noncomputable abbrev P107 : List PT := [.val ⟨false, (.sl 3 (.int .i64)), false⟩, .pv (.clo 106 [])]
noncomputable abbrev R107 : List RT := [.val ⟨false, (.int .i64), true⟩]
noncomputable abbrev c107_L2 : Cut := ⟨[0, 1, 7, 8], [.cell (.sl 3 (.int .i64)), .clo 106 [], .cell (.int .i64), .cell (.int .i64)], [], 19⟩
noncomputable def l107_2 (k : Nat) (g2 : (List Int) → Int → Int → Option Y0_7) (s1 : List Int) (t7 : Int) (t8 : Int) : Option Y0_7 :=
 (bif decide (t8 < t7) then
  ix s1 t8 <|
  (S106 k (rd s1 t8 0)).bind fun q0 =>
  (bif q0.1.1 then
   some ((t8, ()), ())
  else
   g2 s1 t7 (IntKind.i64.wrap (t8 + 1)))
 else
  some (((-1), ()), ()))
noncomputable def b107_2 (k : Nat) (g : ((Unit) × (List Int) × Unit × Int × Int × Unit) → Option Y0_7) (d : (Unit) × (List Int) × Unit × Int × Int × Unit) : Option Y0_7 := l107_2 k (fun s1 t7 t8 => g ((), s1, (), t7, t8, ())) d.2.1 d.2.2.2.1 d.2.2.2.2.1
noncomputable def L107_2 (k : Nat) (j : Nat) (s1 : List Int) (t7 : Int) (t8 : Int) : Option Y0_7 := iter (R := (Int × Unit) × Unit) c107_L2 (b107_2 k) j ((), s1, (), t7, t8, ())
theorem L107_2_s (k : Nat) (j : Nat) (s1 : List Int) (t7 : Int) (t8 : Int) : L107_2 k (j + 1) s1 t7 t8 = l107_2 k (L107_2 k j) s1 t7 t8 := iter_succ _ _ _ _
noncomputable def S107 (k : Nat) (s : List Int) : Option Y0_7 :=
 L107_2 k k s (s.length : Int) 0
noncomputable def E107 : Env := tab.env (lk [(106, F106)]) (hintL [])
theorem E107_ok : EnvOK Try.prog E107 := envOK_of tabOK _ _ (allFn_lk (l := [(106, F106)]) ⟨ok106, trivial⟩)
noncomputable def B107 (k : Nat) : Tbl (RD R107 × MD P107) := (.loop 2 c107_L2 (b107_2 k) (fun g => .nil) .nil)
noncomputable def F107 : Fn := ⟨P107, R107, fun k x => S107 k x.1⟩
theorem ok107 : FnOK Try.prog 107 F107 := evalF_ok (E := E107) (T := B107) E107_ok mix Try.func107 rfl (by kernel_rfl) (by kernel_rfl) (fun k => by kernel_rfl) (fun k x => by kernel_rfl)
noncomputable abbrev P93 : List PT := [.val ⟨false, (.sl 3 (.int .i64)), false⟩, .pv (.clo 106 [])]
noncomputable abbrev R93 : List RT := [.val ⟨false, .bool, true⟩]
noncomputable def S93 (k : Nat) (s : List Int) : Option Y0_6 :=
 (S107 k s).bind fun q0 =>
 some ((decide (q0.1.1 ≥ 0), ()), ())
noncomputable def E93 : Env := tab.env (lk [(107, F107)]) (hintL [])
theorem E93_ok : EnvOK Try.prog E93 := envOK_of tabOK _ _ (allFn_lk (l := [(107, F107)]) ⟨ok107, trivial⟩)
noncomputable def B93 (k : Nat) : Tbl (RD R93 × MD P93) := .nil
noncomputable def F93 : Fn := ⟨P93, R93, fun k x => S93 k x.1⟩
theorem ok93 : FnOK Try.prog 93 F93 := evalF_ok (E := E93) (T := B93) E93_ok mix Try.func93 rfl (by kernel_rfl) (by kernel_rfl) (fun k => by kernel_rfl) (fun k x => by kernel_rfl)
noncomputable abbrev P91 : List PT := [.val ⟨false, Y0_11, false⟩]
noncomputable abbrev R91 : List RT := [.val ⟨false, .bool, true⟩]
noncomputable abbrev c91_L15 : Cut := ⟨[0, 3, 4, 6, 9, 15, 16, 17], [.cell Y0_11, .cell (.sl 135 Y0_4), .own 3 (.int .i64), .box 135 [.cell (.int .i64), .cell (.int .i64), .cell (.int .i64), .cell .bool], .cell (.int .i64), .cell (.sl 135 Y0_4), .cell (.int .i64), .cell (.int .i64)], [], 84⟩
noncomputable def l91_15 (k : Nat) (g4 : Y0_3) (g15 : (List Y0_1) → (List Y0_0) → (List Int) → Int → Int → Int → Bool → Int → (List Y0_0) → Int → Int → Option Y0_6) (l_3 : List Y0_1) (all2 : List Y0_0) (around2 : List Int) (p4 : Int) (p5 : Int) (p6 : Int) (p7 : Bool) (i : Int) (t15_2 : List Y0_0) (t16_2 : Int) (t17_2 : Int) : Option Y0_6 :=
 (bif p7 then
  (bif decide (i ≤ p5) then
   ix around2 i <|
   ix around2 i <|
   g15 l_3 all2 (upd around2 i (IntKind.i64.wrap ((rd around2 i 0) + 1))) p4 p5 p6 p7 (IntKind.i64.wrap (i + 1)) t15_2 t16_2 t17_2
  else
   g4 l_3 all2 around2 t15_2 t16_2 (IntKind.i64.wrap (t17_2 + 1)))
 else
  g4 l_3 all2 around2 t15_2 t16_2 (IntKind.i64.wrap (t17_2 + 1)))
noncomputable def b91_15 (k : Nat) (g4 : Y0_3) (g : ((Unit) × (List Y0_1) × (List Y0_0) × (List Int) × Y0_9 × Int × (List Y0_0) × Int × Int × Unit) → Option Y0_6) (d : (Unit) × (List Y0_1) × (List Y0_0) × (List Int) × Y0_9 × Int × (List Y0_0) × Int × Int × Unit) : Option Y0_6 := l91_15 k g4 (fun l_3 all2 around2 p4 p5 p6 p7 i t15_2 t16_2 t17_2 => g ((), l_3, all2, around2, (p4, p5, p6, p7, ()), i, t15_2, t16_2, t17_2, ())) d.2.1 d.2.2.1 d.2.2.2.1 d.2.2.2.2.1.1 d.2.2.2.2.1.2.1 d.2.2.2.2.1.2.2.1 d.2.2.2.2.1.2.2.2.1 d.2.2.2.2.2.1 d.2.2.2.2.2.2.1 d.2.2.2.2.2.2.2.1 d.2.2.2.2.2.2.2.2.1
noncomputable def L91_15 (k : Nat) (g4 : Y0_3) (j : Nat) (l_3 : List Y0_1) (all2 : List Y0_0) (around2 : List Int) (p4 : Int) (p5 : Int) (p6 : Int) (p7 : Bool) (i : Int) (t15_2 : List Y0_0) (t16_2 : Int) (t17_2 : Int) : Option Y0_6 := iter (R := (Bool × Unit) × Unit) c91_L15 (b91_15 k g4) j ((), l_3, all2, around2, (p4, p5, p6, p7, ()), i, t15_2, t16_2, t17_2, ())
theorem L91_15_s (k : Nat) (g4 : Y0_3) (j : Nat) (l_3 : List Y0_1) (all2 : List Y0_0) (around2 : List Int) (p4 : Int) (p5 : Int) (p6 : Int) (p7 : Bool) (i : Int) (t15_2 : List Y0_0) (t16_2 : Int) (t17_2 : Int) : L91_15 k g4 (j + 1) l_3 all2 around2 p4 p5 p6 p7 i t15_2 t16_2 t17_2 = l91_15 k g4 (L91_15 k g4 j) l_3 all2 around2 p4 p5 p6 p7 i t15_2 t16_2 t17_2 := iter_succ _ _ _ _
noncomputable abbrev c91_L9 : Cut := ⟨[0, 3, 4, 6, 15, 16, 17, 27, 28, 29], [.cell Y0_11, .cell (.sl 135 Y0_4), .own 3 (.int .i64), .box 135 [.cell (.int .i64), .cell (.int .i64), .cell (.int .i64), .cell .bool], .cell (.sl 135 Y0_4), .cell (.int .i64), .cell (.int .i64), .cell (.sl 135 Y0_4), .cell (.int .i64), .cell (.int .i64)], [], 84⟩
noncomputable def l91_9 (k : Nat) (g4 : Y0_3) (g9 : (List Y0_1) → (List Y0_0) → (List Int) → Int → Int → Int → Bool → (List Y0_0) → Int → Int → (List Y0_0) → Int → Int → Option Y0_6) (l_2 : List Y0_1) (all1 : List Y0_0) (around1 : List Int) (p : Int) (p1 : Int) (p2 : Int) (p3 : Bool) (t15_1 : List Y0_0) (t16_1 : Int) (t17_1 : Int) (t27 : List Y0_0) (t28 : Int) (t29 : Int) : Option Y0_6 :=
 (bif decide (t29 < t28) then
  ix t27 t29 <|
  (S103 k (rd t27 t29 (0, 0, 0, false)) p2).bind fun q1 =>
  (bif q1.1.1 then
   (S104 k (p, p1, p2, p3) (rd t27 t29 (0, 0, 0, false))).bind fun q2 =>
   (bif !q2.1.1 then
    some ((false, ()), ())
   else
    (S105 k (p, p1, p2, p3) (rd t27 t29 (0, 0, 0, false))).bind fun q3 =>
    (bif !q3.1.1 then
     (S104 k (p, p1, p2, p3) (rd t27 t29 (0, 0, 0, false))).bind fun q4 =>
     (bif !q4.1.1 then
      (S104 k (rd t27 t29 (0, 0, 0, false)) (p, p1, p2, p3)).bind fun q5 =>
      (bif !q5.1.1 then
       some ((false, ()), ())
      else
       g9 l_2 all1 around1 p p1 p2 p3 t15_1 t16_1 t17_1 t27 t28 (IntKind.i64.wrap (t29 + 1)))
     else
      g9 l_2 all1 around1 p p1 p2 p3 t15_1 t16_1 t17_1 t27 t28 (IntKind.i64.wrap (t29 + 1)))
    else
     g9 l_2 all1 around1 p p1 p2 p3 t15_1 t16_1 t17_1 t27 t28 (IntKind.i64.wrap (t29 + 1))))
  else
   (S105 k (p, p1, p2, p3) (rd t27 t29 (0, 0, 0, false))).bind fun q6 =>
   (bif !q6.1.1 then
    (S104 k (p, p1, p2, p3) (rd t27 t29 (0, 0, 0, false))).bind fun q7 =>
    (bif !q7.1.1 then
     (S104 k (rd t27 t29 (0, 0, 0, false)) (p, p1, p2, p3)).bind fun q8 =>
     (bif !q8.1.1 then
      some ((false, ()), ())
     else
      g9 l_2 all1 around1 p p1 p2 p3 t15_1 t16_1 t17_1 t27 t28 (IntKind.i64.wrap (t29 + 1)))
    else
     g9 l_2 all1 around1 p p1 p2 p3 t15_1 t16_1 t17_1 t27 t28 (IntKind.i64.wrap (t29 + 1)))
   else
    g9 l_2 all1 around1 p p1 p2 p3 t15_1 t16_1 t17_1 t27 t28 (IntKind.i64.wrap (t29 + 1))))
 else
  L91_15 k g4 k l_2 all1 around1 p p1 p2 p3 p t15_1 t16_1 t17_1)
noncomputable def b91_9 (k : Nat) (g4 : Y0_3) (g : ((Unit) × (List Y0_1) × (List Y0_0) × (List Int) × Y0_9 × (List Y0_0) × Int × Int × (List Y0_0) × Int × Int × Unit) → Option Y0_6) (d : (Unit) × (List Y0_1) × (List Y0_0) × (List Int) × Y0_9 × (List Y0_0) × Int × Int × (List Y0_0) × Int × Int × Unit) : Option Y0_6 := l91_9 k g4 (fun l_2 all1 around1 p p1 p2 p3 t15_1 t16_1 t17_1 t27 t28 t29 => g ((), l_2, all1, around1, (p, p1, p2, p3, ()), t15_1, t16_1, t17_1, t27, t28, t29, ())) d.2.1 d.2.2.1 d.2.2.2.1 d.2.2.2.2.1.1 d.2.2.2.2.1.2.1 d.2.2.2.2.1.2.2.1 d.2.2.2.2.1.2.2.2.1 d.2.2.2.2.2.1 d.2.2.2.2.2.2.1 d.2.2.2.2.2.2.2.1 d.2.2.2.2.2.2.2.2.1 d.2.2.2.2.2.2.2.2.2.1 d.2.2.2.2.2.2.2.2.2.2.1
noncomputable def L91_9 (k : Nat) (g4 : Y0_3) (j : Nat) (l_2 : List Y0_1) (all1 : List Y0_0) (around1 : List Int) (p : Int) (p1 : Int) (p2 : Int) (p3 : Bool) (t15_1 : List Y0_0) (t16_1 : Int) (t17_1 : Int) (t27 : List Y0_0) (t28 : Int) (t29 : Int) : Option Y0_6 := iter (R := (Bool × Unit) × Unit) c91_L9 (b91_9 k g4) j ((), l_2, all1, around1, (p, p1, p2, p3, ()), t15_1, t16_1, t17_1, t27, t28, t29, ())
theorem L91_9_s (k : Nat) (g4 : Y0_3) (j : Nat) (l_2 : List Y0_1) (all1 : List Y0_0) (around1 : List Int) (p : Int) (p1 : Int) (p2 : Int) (p3 : Bool) (t15_1 : List Y0_0) (t16_1 : Int) (t17_1 : Int) (t27 : List Y0_0) (t28 : Int) (t29 : Int) : L91_9 k g4 (j + 1) l_2 all1 around1 p p1 p2 p3 t15_1 t16_1 t17_1 t27 t28 t29 = l91_9 k g4 (L91_9 k g4 j) l_2 all1 around1 p p1 p2 p3 t15_1 t16_1 t17_1 t27 t28 t29 := iter_succ _ _ _ _
noncomputable abbrev c91_L4 : Cut := ⟨[0, 3, 4, 15, 16, 17], [.cell Y0_11, .cell (.sl 135 Y0_4), .own 3 (.int .i64), .cell (.sl 135 Y0_4), .cell (.int .i64), .cell (.int .i64)], [], 84⟩
noncomputable def l91_4 (k : Nat) (g4 : Y0_3) (l_1 : List Y0_1) (all : List Y0_0) (around : List Int) (t15 : List Y0_0) (t16 : Int) (t17 : Int) : Option Y0_6 :=
 (bif decide (t17 < t16) then
  ix t15 t17 <|
  (bif decide ((rd t15 t17 (0, 0, 0, false)).2.1 ≥ (IntKind.i64.wrap ((l_1.length : Int) - 1))) then
   some ((false, ()), ())
  else
   L91_9 k g4 k l_1 all around (rd t15 t17 (0, 0, 0, false)).1 (rd t15 t17 (0, 0, 0, false)).2.1 (rd t15 t17 (0, 0, 0, false)).2.2.1 (rd t15 t17 (0, 0, 0, false)).2.2.2 t15 t16 t17 all (all.length : Int) 0)
 else
  (S93 k around).bind fun q9 =>
  some ((!q9.1.1, ()), ()))
noncomputable def b91_4 (k : Nat) (g : ((Unit) × (List Y0_1) × (List Y0_0) × (List Int) × (List Y0_0) × Int × Int × Unit) → Option Y0_6) (d : (Unit) × (List Y0_1) × (List Y0_0) × (List Int) × (List Y0_0) × Int × Int × Unit) : Option Y0_6 := l91_4 k (fun l_1 all around t15 t16 t17 => g ((), l_1, all, around, t15, t16, t17, ())) d.2.1 d.2.2.1 d.2.2.2.1 d.2.2.2.2.1 d.2.2.2.2.2.1 d.2.2.2.2.2.2.1
noncomputable def L91_4 (k : Nat) (j : Nat) (l_1 : List Y0_1) (all : List Y0_0) (around : List Int) (t15 : List Y0_0) (t16 : Int) (t17 : Int) : Option Y0_6 := iter (R := (Bool × Unit) × Unit) c91_L4 (b91_4 k) j ((), l_1, all, around, t15, t16, t17, ())
theorem L91_4_s (k : Nat) (j : Nat) (l_1 : List Y0_1) (all : List Y0_0) (around : List Int) (t15 : List Y0_0) (t16 : Int) (t17 : Int) : L91_4 k (j + 1) l_1 all around t15 t16 t17 = l91_4 k (L91_4 k j) l_1 all around t15 t16 t17 := iter_succ _ _ _ _
noncomputable def S91 (k : Nat) (l_ : List Y0_1) : Option Y0_6 :=
 (S102 k l_).bind fun q0 =>
 mk (l_.length : Int) (l_.length : Int) 8 <|
 L91_4 k k l_ q0.1.1 (List.replicate (l_.length : Int).toNat (0 : Int)) q0.1.1 (q0.1.1.length : Int) 0
noncomputable def E91 : Env := tab.env (lk [(93, F93), (102, F102), (103, F103), (104, F104), (105, F105)]) (hintL [])
theorem E91_ok : EnvOK Try.prog E91 := envOK_of tabOK _ _ (allFn_lk (l := [(93, F93), (102, F102), (103, F103), (104, F104), (105, F105)]) ⟨ok93, ok102, ok103, ok104, ok105, trivial⟩)
noncomputable def B91 (k : Nat) : Tbl (RD R91 × MD P91) := (.loop 4 c91_L4 (b91_4 k) (fun g => (fun (g4 : Y0_3) => (.loop 15 c91_L15 (b91_15 k g4) (fun g => .nil) (.loop 9 c91_L9 (b91_9 k g4) (fun g => .nil) .nil))) (fun l_1 all around t15 t16 t17 => g ((), l_1, all, around, t15, t16, t17, ()))) .nil)
noncomputable def F91 : Fn := ⟨P91, R91, fun k x => S91 k x.1⟩
theorem ok91 : FnOK Try.prog 91 F91 := evalF_ok (E := E91) (T := B91) E91_ok mix Try.func91 rfl (by kernel_rfl) (by kernel_rfl) (fun k => by kernel_rfl) (fun k x => by kernel_rfl)
noncomputable abbrev P92 : List PT := [.val ⟨false, Y0_11, false⟩]
noncomputable abbrev R92 : List RT := [.val ⟨false, (.sl 122 (arrT 24 .bool)), true⟩]
noncomputable abbrev c92_L6 : Cut := ⟨[0, 3, 4, 5, 11, 12, 13, 19, 20], [.cell Y0_11, .own 122 (arrT 24 .bool), .cell (.int .i64), .box 135 [.cell (.int .i64), .cell (.int .i64), .cell (.int .i64), .cell .bool], .own 135 Y0_4, .cell (.int .i64), .cell (.int .i64), .cell (.int .i64), .cell (.int .i64)], [], 38⟩
noncomputable def l92_6 (k : Nat) (g3 : Y0_5) (g6 : (List Y0_1) → (List (PN Bool 24)) → Int → Int → Int → Int → Bool → (List Y0_0) → Int → Int → Int → Int → Option Y0_8) (l_2 : List Y0_1) (out1 : List (PN Bool 24)) (n : Int) (p : Int) (p1 : Int) (p2 : Int) (p3 : Bool) (t11_1 : List Y0_0) (t12_1 : Int) (t13_1 : Int) (t19 : Int) (t20 : Int) : Option Y0_8 :=
 (bif decide (t20 < t19) then
  (bif decide (n < 24) then
   (S103 k (p, p1, p2, p3) t20).bind fun q1 =>
   (bif q1.1.1 then
    ix out1 t20 <|
    ax 24 n <|
    g6 l_2 (upd out1 t20 (aset (α := Bool) 24 (rd out1 t20 (prep (α := Bool) 24 false)) n true)) n p p1 p2 p3 t11_1 t12_1 t13_1 t19 (IntKind.i64.wrap (t20 + 1))
   else
    g6 l_2 out1 n p p1 p2 p3 t11_1 t12_1 t13_1 t19 (IntKind.i64.wrap (t20 + 1)))
  else
   g6 l_2 out1 n p p1 p2 p3 t11_1 t12_1 t13_1 t19 (IntKind.i64.wrap (t20 + 1)))
 else
  g3 l_2 out1 t11_1 t12_1 (IntKind.i64.wrap (t13_1 + 1)))
noncomputable def b92_6 (k : Nat) (g3 : Y0_5) (g : ((Unit) × (List Y0_1) × (List (PN Bool 24)) × Int × Y0_9 × (List Y0_0) × Int × Int × Int × Int × Unit) → Option Y0_8) (d : (Unit) × (List Y0_1) × (List (PN Bool 24)) × Int × Y0_9 × (List Y0_0) × Int × Int × Int × Int × Unit) : Option Y0_8 := l92_6 k g3 (fun l_2 out1 n p p1 p2 p3 t11_1 t12_1 t13_1 t19 t20 => g ((), l_2, out1, n, (p, p1, p2, p3, ()), t11_1, t12_1, t13_1, t19, t20, ())) d.2.1 d.2.2.1 d.2.2.2.1 d.2.2.2.2.1.1 d.2.2.2.2.1.2.1 d.2.2.2.2.1.2.2.1 d.2.2.2.2.1.2.2.2.1 d.2.2.2.2.2.1 d.2.2.2.2.2.2.1 d.2.2.2.2.2.2.2.1 d.2.2.2.2.2.2.2.2.1 d.2.2.2.2.2.2.2.2.2.1
noncomputable def L92_6 (k : Nat) (g3 : Y0_5) (j : Nat) (l_2 : List Y0_1) (out1 : List (PN Bool 24)) (n : Int) (p : Int) (p1 : Int) (p2 : Int) (p3 : Bool) (t11_1 : List Y0_0) (t12_1 : Int) (t13_1 : Int) (t19 : Int) (t20 : Int) : Option Y0_8 := iter (R := ((List (PN Bool 24)) × Unit) × Unit) c92_L6 (b92_6 k g3) j ((), l_2, out1, n, (p, p1, p2, p3, ()), t11_1, t12_1, t13_1, t19, t20, ())
theorem L92_6_s (k : Nat) (g3 : Y0_5) (j : Nat) (l_2 : List Y0_1) (out1 : List (PN Bool 24)) (n : Int) (p : Int) (p1 : Int) (p2 : Int) (p3 : Bool) (t11_1 : List Y0_0) (t12_1 : Int) (t13_1 : Int) (t19 : Int) (t20 : Int) : L92_6 k g3 (j + 1) l_2 out1 n p p1 p2 p3 t11_1 t12_1 t13_1 t19 t20 = l92_6 k g3 (L92_6 k g3 j) l_2 out1 n p p1 p2 p3 t11_1 t12_1 t13_1 t19 t20 := iter_succ _ _ _ _
noncomputable abbrev c92_L3 : Cut := ⟨[0, 3, 11, 12, 13], [.cell Y0_11, .own 122 (arrT 24 .bool), .own 135 Y0_4, .cell (.int .i64), .cell (.int .i64)], [], 38⟩
noncomputable def l92_3 (k : Nat) (g3 : Y0_5) (l_1 : List Y0_1) (out : List (PN Bool 24)) (t11 : List Y0_0) (t12 : Int) (t13 : Int) : Option Y0_8 :=
 (bif decide (t13 < t12) then
  ix t11 t13 <|
  L92_6 k g3 k l_1 out t13 (rd t11 t13 (0, 0, 0, false)).1 (rd t11 t13 (0, 0, 0, false)).2.1 (rd t11 t13 (0, 0, 0, false)).2.2.1 (rd t11 t13 (0, 0, 0, false)).2.2.2 t11 t12 t13 (l_1.length : Int) 0
 else
  some ((out, ()), ()))
noncomputable def b92_3 (k : Nat) (g : ((Unit) × (List Y0_1) × (List (PN Bool 24)) × (List Y0_0) × Int × Int × Unit) → Option Y0_8) (d : (Unit) × (List Y0_1) × (List (PN Bool 24)) × (List Y0_0) × Int × Int × Unit) : Option Y0_8 := l92_3 k (fun l_1 out t11 t12 t13 => g ((), l_1, out, t11, t12, t13, ())) d.2.1 d.2.2.1 d.2.2.2.1 d.2.2.2.2.1 d.2.2.2.2.2.1
noncomputable def L92_3 (k : Nat) (j : Nat) (l_1 : List Y0_1) (out : List (PN Bool 24)) (t11 : List Y0_0) (t12 : Int) (t13 : Int) : Option Y0_8 := iter (R := ((List (PN Bool 24)) × Unit) × Unit) c92_L3 (b92_3 k) j ((), l_1, out, t11, t12, t13, ())
theorem L92_3_s (k : Nat) (j : Nat) (l_1 : List Y0_1) (out : List (PN Bool 24)) (t11 : List Y0_0) (t12 : Int) (t13 : Int) : L92_3 k (j + 1) l_1 out t11 t12 t13 = l92_3 k (L92_3 k j) l_1 out t11 t12 t13 := iter_succ _ _ _ _
noncomputable def S92 (k : Nat) (l_ : List Y0_1) : Option Y0_8 :=
 mk (l_.length : Int) (l_.length : Int) 24 <|
 (S102 k l_).bind fun q0 =>
 L92_3 k k l_ (List.replicate (l_.length : Int).toNat (prep (α := Bool) 24 false : PN Bool 24)) q0.1.1 (q0.1.1.length : Int) 0
noncomputable def E92 : Env := tab.env (lk [(102, F102), (103, F103)]) (hintL [])
theorem E92_ok : EnvOK Try.prog E92 := envOK_of tabOK _ _ (allFn_lk (l := [(102, F102), (103, F103)]) ⟨ok102, ok103, trivial⟩)
noncomputable def B92 (k : Nat) : Tbl (RD R92 × MD P92) := (.loop 3 c92_L3 (b92_3 k) (fun g => (fun (g3 : Y0_5) => (.loop 6 c92_L6 (b92_6 k g3) (fun g => .nil) .nil)) (fun l_1 out t11 t12 t13 => g ((), l_1, out, t11, t12, t13, ()))) .nil)
noncomputable def F92 : Fn := ⟨P92, R92, fun k x => S92 k x.1⟩
theorem ok92 : FnOK Try.prog 92 F92 := evalF_ok (E := E92) (T := B92) E92_ok mix Try.func92 rfl (by kernel_rfl) (by kernel_rfl) (fun k => by kernel_rfl) (fun k x => by kernel_rfl)
noncomputable abbrev P97 : List PT := [.val ⟨false, (.int .i64), false⟩, .pv (.ref Y0_11), .pv (.ref (.int .i64))]
noncomputable abbrev R97 : List RT := [.val ⟨false, .bool, true⟩]
noncomputable def S97 (k : Nat) (k_ : Int) (x1 : List Y0_1) (x2 : Int) : Option Y0_6 :=
 ix x1 k_ <|
 ix x1 x2 <|
 some (((rd x1 k_ (0, 0, 0, 0)).2.1 == (rd x1 x2 (0, 0, 0, 0)).2.1, ()), ())
noncomputable def E97 : Env := tab.env (lk []) (hintL [])
theorem E97_ok : EnvOK Try.prog E97 := envOK_of tabOK _ _ (fun f F h => by cases h)
noncomputable def B97 (k : Nat) : Tbl (RD R97 × MD P97) := .nil
noncomputable def F97 : Fn := ⟨P97, R97, fun k x => S97 k x.1 x.2.1 x.2.2.1⟩
theorem ok97 : FnOK Try.prog 97 F97 := evalF_ok (E := E97) (T := B97) E97_ok mix Try.func97 rfl (by kernel_rfl) (by kernel_rfl) (fun k => by kernel_rfl) (fun k x => by kernel_rfl)
noncomputable abbrev P107a : List PT := [.val ⟨false, (.sl 3 (.int .i64)), false⟩, .pv (.clo 97 [.ref Y0_11, .ref (.int .i64)])]
noncomputable abbrev R107a : List RT := [.val ⟨false, (.int .i64), true⟩]
noncomputable abbrev c107a_L2 : Cut := ⟨[0, 1, 7, 8], [.cell (.sl 3 (.int .i64)), .clo 97 [.ref Y0_11, .ref (.int .i64)], .cell (.int .i64), .cell (.int .i64)], [], 19⟩
noncomputable def l107a_2 (k : Nat) (g2 : (List Int) → (List Y0_1) → Int → Int → Int → Option Y0_7) (s1 : List Int) (f2 : List Y0_1) (f3 : Int) (t7 : Int) (t8 : Int) : Option Y0_7 :=
 (bif decide (t8 < t7) then
  ix s1 t8 <|
  (S97 k (rd s1 t8 0) f2 f3).bind fun q0 =>
  (bif q0.1.1 then
   some ((t8, ()), ())
  else
   g2 s1 f2 f3 t7 (IntKind.i64.wrap (t8 + 1)))
 else
  some (((-1), ()), ()))
noncomputable def b107a_2 (k : Nat) (g : ((Unit) × (List Int) × ((List Y0_1) × Int × Unit) × Int × Int × Unit) → Option Y0_7) (d : (Unit) × (List Int) × ((List Y0_1) × Int × Unit) × Int × Int × Unit) : Option Y0_7 := l107a_2 k (fun s1 f2 f3 t7 t8 => g ((), s1, (f2, f3, ()), t7, t8, ())) d.2.1 d.2.2.1.1 d.2.2.1.2.1 d.2.2.2.1 d.2.2.2.2.1
noncomputable def L107a_2 (k : Nat) (j : Nat) (s1 : List Int) (f2 : List Y0_1) (f3 : Int) (t7 : Int) (t8 : Int) : Option Y0_7 := iter (R := (Int × Unit) × Unit) c107a_L2 (b107a_2 k) j ((), s1, (f2, f3, ()), t7, t8, ())
theorem L107a_2_s (k : Nat) (j : Nat) (s1 : List Int) (f2 : List Y0_1) (f3 : Int) (t7 : Int) (t8 : Int) : L107a_2 k (j + 1) s1 f2 f3 t7 t8 = l107a_2 k (L107a_2 k j) s1 f2 f3 t7 t8 := iter_succ _ _ _ _
noncomputable def S107a (k : Nat) (s : List Int) (f : List Y0_1) (f1 : Int) : Option Y0_7 :=
 L107a_2 k k s f f1 (s.length : Int) 0
noncomputable def E107a : Env := tab.env (lk [(97, F97)]) (hintL [])
theorem E107a_ok : EnvOK Try.prog E107a := envOK_of tabOK _ _ (allFn_lk (l := [(97, F97)]) ⟨ok97, trivial⟩)
noncomputable def B107a (k : Nat) : Tbl (RD R107a × MD P107a) := (.loop 2 c107a_L2 (b107a_2 k) (fun g => .nil) .nil)
noncomputable def F107a : Fn := ⟨P107a, R107a, fun k x => S107a k x.1 x.2.1.1 x.2.1.2.1⟩
theorem ok107a : FnOK Try.prog 107 F107a := evalF_ok (E := E107a) (T := B107a) E107a_ok mix Try.func107 rfl (by kernel_rfl) (by kernel_rfl) (fun k => by kernel_rfl) (fun k x => by kernel_rfl)
noncomputable abbrev P93a : List PT := [.val ⟨false, (.sl 3 (.int .i64)), false⟩, .pv (.clo 97 [.ref Y0_11, .ref (.int .i64)])]
noncomputable abbrev R93a : List RT := [.val ⟨false, .bool, true⟩]
noncomputable def S93a (k : Nat) (s : List Int) (f : List Y0_1) (f1 : Int) : Option Y0_6 :=
 (S107a k s f f1).bind fun q0 =>
 some ((decide (q0.1.1 ≥ 0), ()), ())
noncomputable def E93a : Env := tab.env (lk [(107, F107a)]) (hintL [])
theorem E93a_ok : EnvOK Try.prog E93a := envOK_of tabOK _ _ (allFn_lk (l := [(107, F107a)]) ⟨ok107a, trivial⟩)
noncomputable def B93a (k : Nat) : Tbl (RD R93a × MD P93a) := .nil
noncomputable def F93a : Fn := ⟨P93a, R93a, fun k x => S93a k x.1 x.2.1.1 x.2.1.2.1⟩
theorem ok93a : FnOK Try.prog 93 F93a := evalF_ok (E := E93a) (T := B93a) E93a_ok mix Try.func93 rfl (by kernel_rfl) (by kernel_rfl) (fun k => by kernel_rfl) (fun k x => by kernel_rfl)
end Go.Proofs.Ytinopkpnlibopaa.Ab
