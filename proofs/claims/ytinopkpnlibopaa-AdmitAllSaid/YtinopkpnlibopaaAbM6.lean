import Derived.Test.YtinopkpnlibopaaAbM5
/- Contracts, printed by this session's own program gen.py. -/
set_option linter.unusedVariables false
set_option linter.unusedSimpArgs false
set_option maxRecDepth 100000
namespace Go.Proofs.Ytinopkpnlibopaa.Ab
open Go.RowKit
abbrev Y6_0 : Type := Int × Int × Int × (List (Int × Int × Int × Int)) × (List (Int × Int × Int × Int)) × List (Int × Int × Int × Int)
abbrev Y6_1 : Ty := .sl 60 (.pair (.int .i64) (.pair (.int .i64) (.pair (.int .i64) (.int .i64))))
abbrev Y6_2 : Type := Int × Int × Int × Int
abbrev Y6_3 : Ty := .pair (.int .i64) (.pair (.int .i64) (.pair (.int .i64) (.pair Y6_1 (.pair Y6_1 Y6_1))))
abbrev Y6_4 : Type := Int → Int → Int → (List Y6_2) → (List Y6_2) → (List Y6_2) → (List Y6_0) → Int → Int → Int → (List Y6_2) → (List Y6_2) → (List Y6_2) → (List Int) → Int → Option ((Bool × Unit) × Unit)
abbrev Y6_5 : Type := Int × Int × Int × (List Y6_2) × (List Y6_2) × (List Y6_2) × Unit
abbrev Y6_6 : Type := (Bool × Unit) × Unit
abbrev Y6_7 : Type := ((List Y6_0) × (List (PN Int 5)) × Int × Unit) × Unit
abbrev Y6_8 : Type := Int × Int × Int × (List Y6_2) × (List Y6_2) × List Y6_2
noncomputable abbrev P30 : List PT := [.val ⟨false, (.sl 36 Y6_3), false⟩, .val ⟨true, Y6_3, false⟩, .val ⟨false, (.int .i64), false⟩]
noncomputable abbrev R30 : List RT := [.val ⟨false, (.sl 36 Y6_3), true⟩, .val ⟨false, (.sl 62 (arrT 5 (.int .i64))), true⟩, .val ⟨false, (.int .i64), true⟩]
noncomputable abbrev c30_L6 : Cut := ⟨[0, 2, 4, 10, 11], [.cell (.sl 36 Y6_3), .cell (.int .i64), .box 36 [.cell (.int .i64), .cell (.int .i64), .cell (.int .i64), .cell Y6_1, .cell Y6_1, .cell Y6_1], .cell (.int .i64), .cell (.int .i64)], [], 69⟩
noncomputable def l30_6 (k : Nat) (g6 : (List Y6_0) → Int → Int → Int → Int → (List Y6_2) → (List Y6_2) → (List Y6_2) → Int → Int → Option Y6_7) (l_1 : List Y6_0) (apart1 : Int) (t1 : Int) (t2 : Int) (t3 : Int) (t4 : List Y6_2) (t5 : List Y6_2) (t6 : List Y6_2) (k_ : Int) (i : Int) : Option Y6_7 :=
 (bif decide (i < (l_1.length : Int)) then
  ix l_1 i <|
  (bif (rd l_1 i (0, 0, 0, [], [], [])).1 == t1 then
   some (([], [], 11, ()), ())
  else
   ix l_1 i <|
   (bif decide ((rd l_1 i (0, 0, 0, [], [], [])).1 < t1) then
    g6 l_1 apart1 t1 t2 t3 t4 t5 t6 (IntKind.i64.wrap (i + 1)) (IntKind.i64.wrap (i + 1))
   else
    g6 l_1 apart1 t1 t2 t3 t4 t5 t6 k_ (IntKind.i64.wrap (i + 1))))
 else
  (bif decide ((l_1.length : Int) ≥ 8) then
   some (([], [], 4, ()), ())
  else
   sx l_1 0 k_ <|
   ap ([] : List Y6_0) (sub l_1 0 k_) 96 fun r1 =>
   ap r1 ([(t1, t2, t3, t4, t5, t6)] : List Y6_0) 96 fun r2 =>
   sx l_1 k_ (l_1.length : Int) <|
   ap r2 (sub l_1 k_ (l_1.length : Int)) 96 fun r3 =>
   (S27 k r3 apart1).bind fun q4 =>
   (bif q4.1.2.1 != 0 then
    some (([], [], q4.1.2.1, ()), ())
   else
    some ((r3, q4.1.1, 0, ()), ()))))
noncomputable def b30_6 (k : Nat) (g : ((Unit) × (List Y6_0) × Int × Y6_5 × Int × Int × Unit) → Option Y6_7) (d : (Unit) × (List Y6_0) × Int × Y6_5 × Int × Int × Unit) : Option Y6_7 := l30_6 k (fun l_1 apart1 t1 t2 t3 t4 t5 t6 k_ i => g ((), l_1, apart1, (t1, t2, t3, t4, t5, t6, ()), k_, i, ())) d.2.1 d.2.2.1 d.2.2.2.1.1 d.2.2.2.1.2.1 d.2.2.2.1.2.2.1 d.2.2.2.1.2.2.2.1 d.2.2.2.1.2.2.2.2.1 d.2.2.2.1.2.2.2.2.2.1 d.2.2.2.2.1 d.2.2.2.2.2.1
noncomputable def L30_6 (k : Nat) (j : Nat) (l_1 : List Y6_0) (apart1 : Int) (t1 : Int) (t2 : Int) (t3 : Int) (t4 : List Y6_2) (t5 : List Y6_2) (t6 : List Y6_2) (k_ : Int) (i : Int) : Option Y6_7 := iter (R := ((List Y6_0) × (List (PN Int 5)) × Int × Unit) × Unit) c30_L6 (b30_6 k) j ((), l_1, apart1, (t1, t2, t3, t4, t5, t6, ()), k_, i, ())
theorem L30_6_s (k : Nat) (j : Nat) (l_1 : List Y6_0) (apart1 : Int) (t1 : Int) (t2 : Int) (t3 : Int) (t4 : List Y6_2) (t5 : List Y6_2) (t6 : List Y6_2) (k_ : Int) (i : Int) : L30_6 k (j + 1) l_1 apart1 t1 t2 t3 t4 t5 t6 k_ i = l30_6 k (L30_6 k j) l_1 apart1 t1 t2 t3 t4 t5 t6 k_ i := iter_succ _ _ _ _
noncomputable def S30 (k : Nat) (l_ : List Y6_0) (t : Y6_8) (apart : Int) : Option Y6_7 :=
 (S34 k t).bind fun q0 =>
 (bif q0.1.1 != 0 then
  some (([], [], q0.1.1, ()), ())
 else
  L30_6 k k l_ apart t.1 t.2.1 t.2.2.1 t.2.2.2.1 t.2.2.2.2.1 t.2.2.2.2.2 0 0)
noncomputable def E30 : Env := tab.env (lk [(27, F27), (34, F34)]) (hintL [])
theorem E30_ok : EnvOK Try.prog E30 := envOK_of tabOK _ _ (allFn_lk (l := [(27, F27), (34, F34)]) ⟨ok27, ok34, trivial⟩)
noncomputable def B30 (k : Nat) : Tbl (RD R30 × MD P30) := (.loop 6 c30_L6 (b30_6 k) (fun g => .nil) .nil)
noncomputable def F30 : Fn := ⟨P30, R30, fun k x => S30 k x.1 x.2.1 x.2.2.1⟩
theorem ok30 : FnOK Try.prog 30 F30 := evalF_ok (E := E30) (T := B30) E30_ok mix Try.func30 rfl (by kernel_rfl) (by kernel_rfl) (fun k => by kernel_rfl) (fun k x => by kernel_rfl)
noncomputable abbrev P52 : List PT := [.val ⟨false, Y6_1, false⟩, .val ⟨false, Y6_1, false⟩]
noncomputable abbrev R52 : List RT := [.val ⟨false, .bool, true⟩]
noncomputable abbrev c52_L4 : Cut := ⟨[0, 1, 5], [.cell Y6_1, .cell Y6_1, .cell (.int .i64)], [], 26⟩
noncomputable def l52_4 (k : Nat) (g4 : (List Y6_2) → (List Y6_2) → Int → Option Y6_6) (a1 : List Y6_2) (b1 : List Y6_2) (i : Int) : Option Y6_6 :=
 (bif decide (i < (a1.length : Int)) then
  ix a1 i <|
  ix b1 i <|
  (bif !(beqD (.pair (.int .i64) (.pair (.int .i64) (.pair (.int .i64) (.int .i64)))) (rd a1 i (0, 0, 0, 0)) (rd b1 i (0, 0, 0, 0))) then
   some ((false, ()), ())
  else
   g4 a1 b1 (IntKind.i64.wrap (i + 1)))
 else
  some ((true, ()), ()))
noncomputable def b52_4 (k : Nat) (g : ((Unit) × (List Y6_2) × (List Y6_2) × Int × Unit) → Option Y6_6) (d : (Unit) × (List Y6_2) × (List Y6_2) × Int × Unit) : Option Y6_6 := l52_4 k (fun a1 b1 i => g ((), a1, b1, i, ())) d.2.1 d.2.2.1 d.2.2.2.1
noncomputable def L52_4 (k : Nat) (j : Nat) (a1 : List Y6_2) (b1 : List Y6_2) (i : Int) : Option Y6_6 := iter (R := (Bool × Unit) × Unit) c52_L4 (b52_4 k) j ((), a1, b1, i, ())
theorem L52_4_s (k : Nat) (j : Nat) (a1 : List Y6_2) (b1 : List Y6_2) (i : Int) : L52_4 k (j + 1) a1 b1 i = l52_4 k (L52_4 k j) a1 b1 i := iter_succ _ _ _ _
noncomputable def S52 (k : Nat) (a : List Y6_2) (b : List Y6_2) : Option Y6_6 :=
 (bif (a.length : Int) != (b.length : Int) then
  some ((false, ()), ())
 else
  L52_4 k k a b 0)
noncomputable def E52 : Env := tab.env (lk []) (hintL [])
theorem E52_ok : EnvOK Try.prog E52 := envOK_of tabOK _ _ (fun f F h => by cases h)
noncomputable def B52 (k : Nat) : Tbl (RD R52 × MD P52) := (.loop 4 c52_L4 (b52_4 k) (fun g => .nil) .nil)
noncomputable def F52 : Fn := ⟨P52, R52, fun k x => S52 k x.1 x.2.1⟩
theorem ok52 : FnOK Try.prog 52 F52 := evalF_ok (E := E52) (T := B52) E52_ok mix Try.func52 rfl (by kernel_rfl) (by kernel_rfl) (fun k => by kernel_rfl) (fun k x => by kernel_rfl)
noncomputable abbrev P32 : List PT := [.val ⟨true, Y6_3, false⟩, .val ⟨true, Y6_3, false⟩]
noncomputable abbrev R32 : List RT := [.val ⟨false, .bool, true⟩]
noncomputable def S32 (k : Nat) (a : Y6_8) (b : Y6_8) : Option Y6_6 :=
 (bif a.1 == b.1 then
  (bif a.2.1 == b.2.1 then
   (bif a.2.2.1 == b.2.2.1 then
    (S52 k a.2.2.2.1 b.2.2.2.1).bind fun q0 =>
    (bif q0.1.1 then
     (S52 k a.2.2.2.2.1 b.2.2.2.2.1).bind fun q1 =>
     (bif q1.1.1 then
      (S52 k a.2.2.2.2.2 b.2.2.2.2.2).bind fun q2 =>
      some ((q2.1.1, ()), ())
     else
      some ((false, ()), ()))
    else
     some ((false, ()), ()))
   else
    some ((false, ()), ()))
  else
   some ((false, ()), ()))
 else
  some ((false, ()), ()))
noncomputable def E32 : Env := tab.env (lk [(52, F52)]) (hintL [])
theorem E32_ok : EnvOK Try.prog E32 := envOK_of tabOK _ _ (allFn_lk (l := [(52, F52)]) ⟨ok52, trivial⟩)
noncomputable def B32 (k : Nat) : Tbl (RD R32 × MD P32) := .nil
noncomputable def F32 : Fn := ⟨P32, R32, fun k x => S32 k x.1 x.2.1⟩
theorem ok32 : FnOK Try.prog 32 F32 := evalF_ok (E := E32) (T := B32) E32_ok mix Try.func32 rfl (by kernel_rfl) (by kernel_rfl) (fun k => by kernel_rfl) (fun k x => by kernel_rfl)
noncomputable abbrev P31 : List PT := [.val ⟨false, (.sl 36 Y6_3), false⟩, .val ⟨false, (.sl 36 Y6_3), false⟩]
noncomputable abbrev R31 : List RT := [.val ⟨false, .bool, true⟩]
noncomputable abbrev c31_L4 : Cut := ⟨[0, 1, 5], [.cell (.sl 36 Y6_3), .cell (.sl 36 Y6_3), .cell (.int .i64)], [], 27⟩
noncomputable def l31_4 (k : Nat) (g4 : (List Y6_0) → (List Y6_0) → Int → Option Y6_6) (a1 : List Y6_0) (b1 : List Y6_0) (i : Int) : Option Y6_6 :=
 (bif decide (i < (a1.length : Int)) then
  ix a1 i <|
  ix b1 i <|
  (S32 k (rd a1 i (0, 0, 0, [], [], [])) (rd b1 i (0, 0, 0, [], [], []))).bind fun q0 =>
  (bif !q0.1.1 then
   some ((false, ()), ())
  else
   g4 a1 b1 (IntKind.i64.wrap (i + 1)))
 else
  some ((true, ()), ()))
noncomputable def b31_4 (k : Nat) (g : ((Unit) × (List Y6_0) × (List Y6_0) × Int × Unit) → Option Y6_6) (d : (Unit) × (List Y6_0) × (List Y6_0) × Int × Unit) : Option Y6_6 := l31_4 k (fun a1 b1 i => g ((), a1, b1, i, ())) d.2.1 d.2.2.1 d.2.2.2.1
noncomputable def L31_4 (k : Nat) (j : Nat) (a1 : List Y6_0) (b1 : List Y6_0) (i : Int) : Option Y6_6 := iter (R := (Bool × Unit) × Unit) c31_L4 (b31_4 k) j ((), a1, b1, i, ())
theorem L31_4_s (k : Nat) (j : Nat) (a1 : List Y6_0) (b1 : List Y6_0) (i : Int) : L31_4 k (j + 1) a1 b1 i = l31_4 k (L31_4 k j) a1 b1 i := iter_succ _ _ _ _
noncomputable def S31 (k : Nat) (a : List Y6_0) (b : List Y6_0) : Option Y6_6 :=
 (bif (a.length : Int) != (b.length : Int) then
  some ((false, ()), ())
 else
  L31_4 k k a b 0)
noncomputable def E31 : Env := tab.env (lk [(32, F32)]) (hintL [])
theorem E31_ok : EnvOK Try.prog E31 := envOK_of tabOK _ _ (allFn_lk (l := [(32, F32)]) ⟨ok32, trivial⟩)
noncomputable def B31 (k : Nat) : Tbl (RD R31 × MD P31) := (.loop 4 c31_L4 (b31_4 k) (fun g => .nil) .nil)
noncomputable def F31 : Fn := ⟨P31, R31, fun k x => S31 k x.1 x.2.1⟩
theorem ok31 : FnOK Try.prog 31 F31 := evalF_ok (E := E31) (T := B31) E31_ok mix Try.func31 rfl (by kernel_rfl) (by kernel_rfl) (fun k => by kernel_rfl) (fun k x => by kernel_rfl)
noncomputable abbrev P9 : List PT := [.val ⟨false, (.sl 5 (.int .u8)), false⟩, .val ⟨false, (.int .i64), false⟩, .val ⟨true, Y6_3, false⟩]
noncomputable abbrev R9 : List RT := [.val ⟨false, .bool, true⟩]
noncomputable abbrev c9_L17 : Cut := ⟨[5, 7, 8, 9, 10, 15, 16], [.box 36 [.cell (.int .i64), .cell (.int .i64), .cell (.int .i64), .cell Y6_1, .cell Y6_1, .cell Y6_1], .cell (.sl 36 Y6_3), .box 36 [.cell (.int .i64), .cell (.int .i64), .cell (.int .i64), .cell Y6_1, .cell Y6_1, .cell Y6_1], .own 2 (.int .i64), .cell (.int .i64), .own 36 Y6_3, .cell (.int .i64)], [], 138⟩
noncomputable def l9_17 (k : Nat) (g9 : Y6_4) (g17 : Int → Int → Int → (List Y6_2) → (List Y6_2) → (List Y6_2) → (List Y6_0) → Int → Int → Int → (List Y6_2) → (List Y6_2) → (List Y6_2) → (List Int) → Int → (List Y6_0) → Int → Option Y6_6) (t7 : Int) (t8 : Int) (t9 : Int) (t10 : List Y6_2) (t11 : List Y6_2) (t12 : List Y6_2) (l_1 : List Y6_0) (more6 : Int) (more7 : Int) (more8 : Int) (more9 : List Y6_2) (more10 : List Y6_2) (more11 : List Y6_2) (aparts1 : List Int) (k_1 : Int) (tasks : List Y6_0) (i : Int) : Option Y6_6 :=
 (bif decide (i < 2) then
  ix tasks i <|
  ix aparts1 k_1 <|
  (S29 k l_1 (rd tasks i (0, 0, 0, [], [], [])) (rd aparts1 k_1 0)).bind fun q7 =>
  ix tasks i <|
  ix aparts1 k_1 <|
  (S30 k l_1 (rd tasks i (0, 0, 0, [], [], [])) (rd aparts1 k_1 0)).bind fun q8 =>
  (bif q7.1.2.2.1 != q8.1.2.2.1 then
   some ((false, ()), ())
  else
   (S31 k q7.1.1 q8.1.1).bind fun q9 =>
   (bif !q9.1.1 then
    some ((false, ()), ())
   else
    (S28 k q7.1.2.1 q8.1.2.1).bind fun q10 =>
    (bif !q10.1.1 then
     some ((false, ()), ())
    else
     g17 t7 t8 t9 t10 t11 t12 l_1 more6 more7 more8 more9 more10 more11 aparts1 k_1 tasks (IntKind.i64.wrap (i + 1)))))
 else
  g9 t7 t8 t9 t10 t11 t12 l_1 more6 more7 more8 more9 more10 more11 aparts1 (IntKind.i64.wrap (k_1 + 1)))
noncomputable def b9_17 (k : Nat) (g9 : Y6_4) (g : ((Unit) × Y6_5 × (List Y6_0) × Y6_5 × (List Int) × Int × (List Y6_0) × Int × Unit) → Option Y6_6) (d : (Unit) × Y6_5 × (List Y6_0) × Y6_5 × (List Int) × Int × (List Y6_0) × Int × Unit) : Option Y6_6 := l9_17 k g9 (fun t7 t8 t9 t10 t11 t12 l_1 more6 more7 more8 more9 more10 more11 aparts1 k_1 tasks i => g ((), (t7, t8, t9, t10, t11, t12, ()), l_1, (more6, more7, more8, more9, more10, more11, ()), aparts1, k_1, tasks, i, ())) d.2.1.1 d.2.1.2.1 d.2.1.2.2.1 d.2.1.2.2.2.1 d.2.1.2.2.2.2.1 d.2.1.2.2.2.2.2.1 d.2.2.1 d.2.2.2.1.1 d.2.2.2.1.2.1 d.2.2.2.1.2.2.1 d.2.2.2.1.2.2.2.1 d.2.2.2.1.2.2.2.2.1 d.2.2.2.1.2.2.2.2.2.1 d.2.2.2.2.1 d.2.2.2.2.2.1 d.2.2.2.2.2.2.1 d.2.2.2.2.2.2.2.1
noncomputable def L9_17 (k : Nat) (g9 : Y6_4) (j : Nat) (t7 : Int) (t8 : Int) (t9 : Int) (t10 : List Y6_2) (t11 : List Y6_2) (t12 : List Y6_2) (l_1 : List Y6_0) (more6 : Int) (more7 : Int) (more8 : Int) (more9 : List Y6_2) (more10 : List Y6_2) (more11 : List Y6_2) (aparts1 : List Int) (k_1 : Int) (tasks : List Y6_0) (i : Int) : Option Y6_6 := iter (R := (Bool × Unit) × Unit) c9_L17 (b9_17 k g9) j ((), (t7, t8, t9, t10, t11, t12, ()), l_1, (more6, more7, more8, more9, more10, more11, ()), aparts1, k_1, tasks, i, ())
theorem L9_17_s (k : Nat) (g9 : Y6_4) (j : Nat) (t7 : Int) (t8 : Int) (t9 : Int) (t10 : List Y6_2) (t11 : List Y6_2) (t12 : List Y6_2) (l_1 : List Y6_0) (more6 : Int) (more7 : Int) (more8 : Int) (more9 : List Y6_2) (more10 : List Y6_2) (more11 : List Y6_2) (aparts1 : List Int) (k_1 : Int) (tasks : List Y6_0) (i : Int) : L9_17 k g9 (j + 1) t7 t8 t9 t10 t11 t12 l_1 more6 more7 more8 more9 more10 more11 aparts1 k_1 tasks i = l9_17 k g9 (L9_17 k g9 j) t7 t8 t9 t10 t11 t12 l_1 more6 more7 more8 more9 more10 more11 aparts1 k_1 tasks i := iter_succ _ _ _ _
noncomputable abbrev c9_L9 : Cut := ⟨[5, 7, 8, 9, 10], [.box 36 [.cell (.int .i64), .cell (.int .i64), .cell (.int .i64), .cell Y6_1, .cell Y6_1, .cell Y6_1], .cell (.sl 36 Y6_3), .box 36 [.cell (.int .i64), .cell (.int .i64), .cell (.int .i64), .cell Y6_1, .cell Y6_1, .cell Y6_1], .own 2 (.int .i64), .cell (.int .i64)], [], 138⟩
noncomputable def l9_9 (k : Nat) (g9 : Y6_4) (t1 : Int) (t2 : Int) (t3 : Int) (t4 : List Y6_2) (t5 : List Y6_2) (t6 : List Y6_2) (l_ : List Y6_0) (more : Int) (more1 : Int) (more2 : Int) (more3 : List Y6_2) (more4 : List Y6_2) (more5 : List Y6_2) (aparts : List Int) (k_ : Int) : Option Y6_6 :=
 (bif decide (k_ < 4) then
  ix aparts k_ <|
  (S26 k l_ (rd aparts k_ 0)).bind fun q4 =>
  ix aparts k_ <|
  (S27 k l_ (rd aparts k_ 0)).bind fun q5 =>
  (bif q4.1.2.1 != q5.1.2.1 then
   some ((false, ()), ())
  else
   (S28 k q4.1.1 q5.1.1).bind fun q6 =>
   (bif !q6.1.1 then
    some ((false, ()), ())
   else
    L9_17 k g9 k t1 t2 t3 t4 t5 t6 l_ more more1 more2 more3 more4 more5 aparts k_ ([(t1, t2, t3, t4, t5, t6), (more, more1, more2, more3, more4, more5)] : List Y6_0) 0))
 else
  some ((true, ()), ()))
noncomputable def b9_9 (k : Nat) (g : ((Unit) × Y6_5 × (List Y6_0) × Y6_5 × (List Int) × Int × Unit) → Option Y6_6) (d : (Unit) × Y6_5 × (List Y6_0) × Y6_5 × (List Int) × Int × Unit) : Option Y6_6 := l9_9 k (fun t1 t2 t3 t4 t5 t6 l_ more more1 more2 more3 more4 more5 aparts k_ => g ((), (t1, t2, t3, t4, t5, t6, ()), l_, (more, more1, more2, more3, more4, more5, ()), aparts, k_, ())) d.2.1.1 d.2.1.2.1 d.2.1.2.2.1 d.2.1.2.2.2.1 d.2.1.2.2.2.2.1 d.2.1.2.2.2.2.2.1 d.2.2.1 d.2.2.2.1.1 d.2.2.2.1.2.1 d.2.2.2.1.2.2.1 d.2.2.2.1.2.2.2.1 d.2.2.2.1.2.2.2.2.1 d.2.2.2.1.2.2.2.2.2.1 d.2.2.2.2.1 d.2.2.2.2.2.1
noncomputable def L9_9 (k : Nat) (j : Nat) (t1 : Int) (t2 : Int) (t3 : Int) (t4 : List Y6_2) (t5 : List Y6_2) (t6 : List Y6_2) (l_ : List Y6_0) (more : Int) (more1 : Int) (more2 : Int) (more3 : List Y6_2) (more4 : List Y6_2) (more5 : List Y6_2) (aparts : List Int) (k_ : Int) : Option Y6_6 := iter (R := (Bool × Unit) × Unit) c9_L9 (b9_9 k) j ((), (t1, t2, t3, t4, t5, t6, ()), l_, (more, more1, more2, more3, more4, more5, ()), aparts, k_, ())
theorem L9_9_s (k : Nat) (j : Nat) (t1 : Int) (t2 : Int) (t3 : Int) (t4 : List Y6_2) (t5 : List Y6_2) (t6 : List Y6_2) (l_ : List Y6_0) (more : Int) (more1 : Int) (more2 : Int) (more3 : List Y6_2) (more4 : List Y6_2) (more5 : List Y6_2) (aparts : List Int) (k_ : Int) : L9_9 k (j + 1) t1 t2 t3 t4 t5 t6 l_ more more1 more2 more3 more4 more5 aparts k_ = l9_9 k (L9_9 k j) t1 t2 t3 t4 t5 t6 l_ more more1 more2 more3 more4 more5 aparts k_ := iter_succ _ _ _ _
noncomputable def S9 (k : Nat) (picks : List Int) (apart : Int) (t : Y6_8) : Option Y6_6 :=
 (S23 k).bind fun q0 =>
 (bif !q0.1.1 then
  some ((false, ()), ())
 else
  (bif decide ((picks.length : Int) > 250) then
   some ((true, ()), ())
  else
   (bif decide ((t.2.2.2.1.length : Int) > 30) then
    some ((true, ()), ())
   else
    (bif decide ((t.2.2.2.2.1.length : Int) > 30) then
     some ((true, ()), ())
    else
     (bif decide ((t.2.2.2.2.2.length : Int) > 30) then
      some ((true, ()), ())
     else
      (S15 k picks 5).bind fun q1 =>
      (S24 k picks).bind fun q2 =>
      (S25 k q2.1.1.1 q2.1.1.2.1 (IntKind.i64.wrap (Int.tmod (IntKind.u64.wrap apart) 20)) 2).bind fun q3 =>
      L9_9 k k t.1 t.2.1 t.2.2.1 t.2.2.2.1 t.2.2.2.2.1 t.2.2.2.2.2 q1.1.1 q3.1.1.1 q3.1.1.2.1 q3.1.1.2.2.1 q3.1.1.2.2.2.1 q3.1.1.2.2.2.2.1 q3.1.1.2.2.2.2.2 ([apart, 5, 50, 1000] : List Int) 0)))))
noncomputable def E9 : Env := tab.env (lk [(15, F15), (23, F23), (24, F24), (25, F25), (26, F26), (27, F27), (28, F28), (29, F29), (30, F30), (31, F31)]) (hintL [])
theorem E9_ok : EnvOK Try.prog E9 := envOK_of tabOK _ _ (allFn_lk (l := [(15, F15), (23, F23), (24, F24), (25, F25), (26, F26), (27, F27), (28, F28), (29, F29), (30, F30), (31, F31)]) ⟨ok15, ok23, ok24, ok25, ok26, ok27, ok28, ok29, ok30, ok31, trivial⟩)
noncomputable def B9 (k : Nat) : Tbl (RD R9 × MD P9) := (.loop 9 c9_L9 (b9_9 k) (fun g => (fun (g9 : Y6_4) => (.loop 17 c9_L17 (b9_17 k g9) (fun g => .nil) .nil)) (fun t1 t2 t3 t4 t5 t6 l_ more more1 more2 more3 more4 more5 aparts k_ => g ((), (t1, t2, t3, t4, t5, t6, ()), l_, (more, more1, more2, more3, more4, more5, ()), aparts, k_, ()))) .nil)
noncomputable def F9 : Fn := ⟨P9, R9, fun k x => S9 k x.1 x.2.1 x.2.2.1⟩
theorem ok9 : FnOK Try.prog 9 F9 := evalF_ok (E := E9) (T := B9) E9_ok mix Try.func9 rfl (by kernel_rfl) (by kernel_rfl) (fun k => by kernel_rfl) (fun k x => by kernel_rfl)
end Go.Proofs.Ytinopkpnlibopaa.Ab
