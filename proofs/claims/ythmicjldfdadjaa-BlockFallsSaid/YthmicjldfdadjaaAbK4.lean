import Derived.Test.YthmicjldfdadjaaAbK3
/- Contracts, printed by this session's own program gen.py. -/
set_option linter.unusedVariables false
set_option linter.unusedSimpArgs false
set_option maxRecDepth 100000
namespace Go.Proofs.Ythmicjldfdadjaa.Ab
open Go.RowKit Go.Proofs.YthmicjldfdadjaaW.PrintWords
abbrev Y4_0 : Type := Int × Int × Int × (List (Int × Int × Int × Int)) × (List (Int × Int × Int × Int)) × List (Int × Int × Int × Int)
abbrev Y4_1 : Ty := .pair (.int .i64) (.pair (.int .i64) (.pair (.int .i64) (.pair (.sl 42 (.pair (.int .i64) (.pair (.int .i64) (.pair (.int .i64) (.int .i64))))) (.pair (.sl 42 (.pair (.int .i64) (.pair (.int .i64) (.pair (.int .i64) (.int .i64))))) (.sl 42 (.pair (.int .i64) (.pair (.int .i64) (.pair (.int .i64) (.int .i64)))))))))
abbrev Y4_2 : Type := (List Y4_0) → (List Y4_0) → Int → Int → Option ((Bool × Unit) × Unit)
abbrev Y4_3 : Type := (Bool × Unit) × Unit
noncomputable abbrev P7 : List PT := [.val ⟨false, (.sl 5 (.int .u8)), false⟩]
noncomputable abbrev R7 : List RT := [.val ⟨false, .bool, true⟩]
noncomputable abbrev c7_L18 : Cut := ⟨[3, 4, 6, 7, 10, 11], [.cell (.sl 24 Y4_1), .own 24 Y4_1, .cell (.int .i64), .cell (.int .i64), .own 39 (.pair (.int .i64) (.int .i64)), .cell (.int .i64)], [], 91⟩
noncomputable def l7_18 (k : Nat) (g14 : Y4_2) (g18 : (List Y4_0) → (List Y4_0) → Int → Int → (List (Int × Int)) → Int → Option Y4_3) (l_2 : List Y4_0) (m2 : List Y4_0) (most1 : Int) (i2 : Int) (spans : List (Int × Int)) (k_ : Int) : Option Y4_3 :=
 (bif decide (k_ < (spans.length : Int)) then
  ix spans k_ <|
  g18 l_2 m2 (mx most1 (rd spans k_ (0, 0)).2) i2 spans (IntKind.i64.wrap (k_ + 1))
 else
  g14 l_2 m2 most1 (IntKind.i64.wrap (i2 + 1)))
noncomputable def b7_18 (k : Nat) (g14 : Y4_2) (g : ((Unit) × (List Y4_0) × (List Y4_0) × Int × Int × (List (Int × Int)) × Int × Unit) → Option Y4_3) (d : (Unit) × (List Y4_0) × (List Y4_0) × Int × Int × (List (Int × Int)) × Int × Unit) : Option Y4_3 := l7_18 k g14 (fun l_2 m2 most1 i2 spans k_ => g ((), l_2, m2, most1, i2, spans, k_, ())) d.2.1 d.2.2.1 d.2.2.2.1 d.2.2.2.2.1 d.2.2.2.2.2.1 d.2.2.2.2.2.2.1
noncomputable def L7_18 (k : Nat) (g14 : Y4_2) (j : Nat) (l_2 : List Y4_0) (m2 : List Y4_0) (most1 : Int) (i2 : Int) (spans : List (Int × Int)) (k_ : Int) : Option Y4_3 := iter (R := (Bool × Unit) × Unit) c7_L18 (b7_18 k g14) j ((), l_2, m2, most1, i2, spans, k_, ())
theorem L7_18_s (k : Nat) (g14 : Y4_2) (j : Nat) (l_2 : List Y4_0) (m2 : List Y4_0) (most1 : Int) (i2 : Int) (spans : List (Int × Int)) (k_ : Int) : L7_18 k g14 (j + 1) l_2 m2 most1 i2 spans k_ = l7_18 k g14 (L7_18 k g14 j) l_2 m2 most1 i2 spans k_ := iter_succ _ _ _ _
noncomputable abbrev c7_L14 : Cut := ⟨[3, 4, 6, 7], [.cell (.sl 24 Y4_1), .own 24 Y4_1, .cell (.int .i64), .cell (.int .i64)], [], 91⟩
noncomputable def l7_14 (k : Nat) (g14 : Y4_2) (l_1 : List Y4_0) (m1 : List Y4_0) (most : Int) (i1 : Int) : Option Y4_3 :=
 (bif decide (i1 < (l_1.length : Int)) then
  ix l_1 i1 <|
  (S17 k (rd l_1 i1 (0, 0, 0, [], [], []))).bind fun q8 =>
  L7_18 k g14 k l_1 m1 most i1 q8.1.2.2.1 0
 else
  (S23 k m1 (l_1.length : Int)).bind fun q9 =>
  some ((q9.1.1 == most, ()), ()))
noncomputable def b7_14 (k : Nat) (g : ((Unit) × (List Y4_0) × (List Y4_0) × Int × Int × Unit) → Option Y4_3) (d : (Unit) × (List Y4_0) × (List Y4_0) × Int × Int × Unit) : Option Y4_3 := l7_14 k (fun l_1 m1 most i1 => g ((), l_1, m1, most, i1, ())) d.2.1 d.2.2.1 d.2.2.2.1 d.2.2.2.2.1
noncomputable def L7_14 (k : Nat) (j : Nat) (l_1 : List Y4_0) (m1 : List Y4_0) (most : Int) (i1 : Int) : Option Y4_3 := iter (R := (Bool × Unit) × Unit) c7_L14 (b7_14 k) j ((), l_1, m1, most, i1, ())
theorem L7_14_s (k : Nat) (j : Nat) (l_1 : List Y4_0) (m1 : List Y4_0) (most : Int) (i1 : Int) : L7_14 k (j + 1) l_1 m1 most i1 = l7_14 k (L7_14 k j) l_1 m1 most i1 := iter_succ _ _ _ _
noncomputable abbrev c7_L8 : Cut := ⟨[3, 4, 5], [.cell (.sl 24 Y4_1), .own 24 Y4_1, .cell (.int .i64)], [], 91⟩
noncomputable def l7_8 (k : Nat) (g8 : (List Y4_0) → (List Y4_0) → Int → Option Y4_3) (l_ : List Y4_0) (m : List Y4_0) (i : Int) : Option Y4_3 :=
 (bif decide (i < (l_.length : Int)) then
  (S23 k m i).bind fun q4 =>
  (S23 k l_ i).bind fun q5 =>
  (bif q4.1.1 != q5.1.1 then
   some ((false, ()), ())
  else
   (S23 k l_ i).bind fun q6 =>
   (bif decide (q6.1.1 < 0) then
    some ((false, ()), ())
   else
    (bif (l_.length : Int) == 1 then
     (S23 k l_ i).bind fun q7 =>
     (bif q7.1.1 != 0 then
      some ((false, ()), ())
     else
      g8 l_ m (IntKind.i64.wrap (i + 1)))
    else
     g8 l_ m (IntKind.i64.wrap (i + 1)))))
 else
  L7_14 k k l_ m 0 0)
noncomputable def b7_8 (k : Nat) (g : ((Unit) × (List Y4_0) × (List Y4_0) × Int × Unit) → Option Y4_3) (d : (Unit) × (List Y4_0) × (List Y4_0) × Int × Unit) : Option Y4_3 := l7_8 k (fun l_ m i => g ((), l_, m, i, ())) d.2.1 d.2.2.1 d.2.2.2.1
noncomputable def L7_8 (k : Nat) (j : Nat) (l_ : List Y4_0) (m : List Y4_0) (i : Int) : Option Y4_3 := iter (R := (Bool × Unit) × Unit) c7_L8 (b7_8 k) j ((), l_, m, i, ())
theorem L7_8_s (k : Nat) (j : Nat) (l_ : List Y4_0) (m : List Y4_0) (i : Int) : L7_8 k (j + 1) l_ m i = l7_8 k (L7_8 k j) l_ m i := iter_succ _ _ _ _
noncomputable def S7 (k : Nat) (picks : List Int) : Option Y4_3 :=
 (S21 k).bind fun q0 =>
 (bif !q0.1.1 then
  some ((false, ()), ())
 else
  (bif decide ((picks.length : Int) > 250) then
   some ((true, ()), ())
  else
   (S22 k picks 5).bind fun q1 =>
   ap ([] : List Y4_0) q1.1.1 96 fun r2 =>
   ap r2 ([(60, 50, 50, ([(0, 0, 0, 0)] : List (Int × Int × Int × Int)), [], [])] : List Y4_0) 96 fun r3 =>
   L7_8 k k q1.1.1 r3 0))
noncomputable def E7 : Env := tab.env (lk [(17, F17), (21, F21), (22, F22), (23, F23)]) (hintL [])
theorem E7_ok : EnvOK Try.prog E7 := envOK_of tabOK _ _ (allFn_lk (l := [(17, F17), (21, F21), (22, F22), (23, F23)]) ⟨ok17, ok21, ok22, ok23, trivial⟩)
noncomputable def B7 (k : Nat) : Tbl (RD R7 × MD P7) := (.loop 14 c7_L14 (b7_14 k) (fun g => (fun (g14 : Y4_2) => (.loop 18 c7_L18 (b7_18 k g14) (fun g => .nil) .nil)) (fun l_1 m1 most i1 => g ((), l_1, m1, most, i1, ()))) (.loop 8 c7_L8 (b7_8 k) (fun g => .nil) .nil))
noncomputable def F7 : Fn := ⟨P7, R7, fun k x => S7 k x.1⟩
theorem ok7 : FnOK Try.prog 7 F7 := evalF_ok (E := E7) (T := B7) E7_ok mix Try.func7 rfl (by kernel_rfl) (by kernel_rfl) (fun k => by kernel_rfl) (fun k x => by kernel_rfl)
end Go.Proofs.Ythmicjldfdadjaa.Ab
