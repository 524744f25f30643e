import Derived.Test.YthmicjldfdadjaaAbI3
/- Contracts, printed by this session's own program gen.py. -/
set_option linter.unusedVariables false
set_option linter.unusedSimpArgs false
set_option maxRecDepth 100000
namespace Go.Proofs.Ythmicjldfdadjaa.Ab
open Go.RowKit Go.Proofs.YthmicjldfdadjaaW.PrintWords
abbrev Y4_0 : Type := Int × Int × Int × (List (Int × Int × Int × Int)) × (List (Int × Int × Int × Int)) × List (Int × Int × Int × Int)
abbrev Y4_1 : Ty := .pair (.int .i64) (.pair (.int .i64) (.pair (.int .i64) (.pair (.sl 42 (.pair (.int .i64) (.pair (.int .i64) (.pair (.int .i64) (.int .i64))))) (.pair (.sl 42 (.pair (.int .i64) (.pair (.int .i64) (.pair (.int .i64) (.int .i64))))) (.sl 42 (.pair (.int .i64) (.pair (.int .i64) (.pair (.int .i64) (.int .i64)))))))))
abbrev Y4_2 : Type := (Int × Unit) × Unit
abbrev Y4_3 : Type := (List Y4_0) → Int → Int → Int → Option Y4_2
abbrev Y4_4 : Type := (List Y4_0) → Int → Int → Option Y4_2
abbrev Y4_5 : Type := (Bool × Unit) × Unit
abbrev Y4_6 : Type := Int × Int × Int × Int
noncomputable abbrev P26 : List PT := [.val ⟨false, (.sl 24 Y4_1), false⟩, .val ⟨false, (.int .i64), false⟩]
noncomputable abbrev R26 : List RT := [.val ⟨false, (.int .i64), true⟩]
noncomputable abbrev c26_L6 : Cut := ⟨[0, 1, 5, 6, 7], [.cell (.sl 24 Y4_1), .cell (.int .i64), .cell (.int .i64), .own 42 (.pair (.int .i64) (.pair (.int .i64) (.pair (.int .i64) (.int .i64)))), .cell (.int .i64)], [], 49⟩
noncomputable def l26_6 (k : Nat) (g2 : Y4_4) (g6 : (List Y4_0) → Int → Int → (List Y4_6) → Int → Option Y4_2) (l_2 : List Y4_0) (s2 : Int) (i1 : Int) (code : List Y4_6) (k_ : Int) : Option Y4_2 :=
 (bif decide (k_ < (code.length : Int)) then
  ix code k_ <|
  (bif (rd code k_ (0, 0, 0, 0)).1 == 9 then
   ix code k_ <|
   (bif (rd code k_ (0, 0, 0, 0)).2.1 == s2 then
    some ((i1, ()), ())
   else
    g6 l_2 s2 i1 code (IntKind.i64.wrap (k_ + 1)))
  else
   g6 l_2 s2 i1 code (IntKind.i64.wrap (k_ + 1)))
 else
  g2 l_2 s2 (IntKind.i64.wrap (i1 + 1)))
noncomputable def b26_6 (k : Nat) (g2 : Y4_4) (g : ((Unit) × (List Y4_0) × Int × Int × (List Y4_6) × Int × Unit) → Option Y4_2) (d : (Unit) × (List Y4_0) × Int × Int × (List Y4_6) × Int × Unit) : Option Y4_2 := l26_6 k g2 (fun l_2 s2 i1 code k_ => g ((), l_2, s2, i1, code, k_, ())) d.2.1 d.2.2.1 d.2.2.2.1 d.2.2.2.2.1 d.2.2.2.2.2.1
noncomputable def L26_6 (k : Nat) (g2 : Y4_4) (j : Nat) (l_2 : List Y4_0) (s2 : Int) (i1 : Int) (code : List Y4_6) (k_ : Int) : Option Y4_2 := iter (R := (Int × Unit) × Unit) c26_L6 (b26_6 k g2) j ((), l_2, s2, i1, code, k_, ())
theorem L26_6_s (k : Nat) (g2 : Y4_4) (j : Nat) (l_2 : List Y4_0) (s2 : Int) (i1 : Int) (code : List Y4_6) (k_ : Int) : L26_6 k g2 (j + 1) l_2 s2 i1 code k_ = l26_6 k g2 (L26_6 k g2 j) l_2 s2 i1 code k_ := iter_succ _ _ _ _
noncomputable abbrev c26_L2 : Cut := ⟨[0, 1, 5], [.cell (.sl 24 Y4_1), .cell (.int .i64), .cell (.int .i64)], [], 49⟩
noncomputable def l26_2 (k : Nat) (g2 : Y4_4) (l_1 : List Y4_0) (s1 : Int) (i : Int) : Option Y4_2 :=
 (bif decide (i < (l_1.length : Int)) then
  ix l_1 i <|
  ap ([] : List Y4_6) (rd l_1 i (0, 0, 0, [], [], [])).2.2.2.1 32 fun r0 =>
  ix l_1 i <|
  ap r0 (rd l_1 i (0, 0, 0, [], [], [])).2.2.2.2.1 32 fun r1 =>
  L26_6 k g2 k l_1 s1 i r1 0
 else
  some ((8, ()), ()))
noncomputable def b26_2 (k : Nat) (g : ((Unit) × (List Y4_0) × Int × Int × Unit) → Option Y4_2) (d : (Unit) × (List Y4_0) × Int × Int × Unit) : Option Y4_2 := l26_2 k (fun l_1 s1 i => g ((), l_1, s1, i, ())) d.2.1 d.2.2.1 d.2.2.2.1
noncomputable def L26_2 (k : Nat) (j : Nat) (l_1 : List Y4_0) (s1 : Int) (i : Int) : Option Y4_2 := iter (R := (Int × Unit) × Unit) c26_L2 (b26_2 k) j ((), l_1, s1, i, ())
theorem L26_2_s (k : Nat) (j : Nat) (l_1 : List Y4_0) (s1 : Int) (i : Int) : L26_2 k (j + 1) l_1 s1 i = l26_2 k (L26_2 k j) l_1 s1 i := iter_succ _ _ _ _
noncomputable def S26 (k : Nat) (l_ : List Y4_0) (s : Int) : Option Y4_2 :=
 L26_2 k k l_ s 0
noncomputable def E26 : Env := tab.env (lk []) (hintL [])
theorem E26_ok : EnvOK Try.prog E26 := envOK_of tabOK _ _ (fun f F h => by cases h)
noncomputable def B26 (k : Nat) : Tbl (RD R26 × MD P26) := (.loop 2 c26_L2 (b26_2 k) (fun g => (fun (g2 : Y4_4) => (.loop 6 c26_L6 (b26_6 k g2) (fun g => .nil) .nil)) (fun l_1 s1 i => g ((), l_1, s1, i, ()))) .nil)
noncomputable def F26 : Fn := ⟨P26, R26, fun k x => S26 k x.1 x.2.1⟩
theorem ok26 : FnOK Try.prog 26 F26 := evalF_ok (E := E26) (T := B26) E26_ok mix Try.func26 rfl (by kernel_rfl) (by kernel_rfl) (fun k => by kernel_rfl) (fun k x => by kernel_rfl)
noncomputable abbrev P24 : List PT := [.val ⟨false, (.sl 24 Y4_1), false⟩, .val ⟨false, (.int .i64), false⟩]
noncomputable abbrev R24 : List RT := [.val ⟨false, (.int .i64), true⟩]
noncomputable abbrev c24_L8 : Cut := ⟨[0, 1, 5, 6, 9, 10], [.cell (.sl 24 Y4_1), .cell (.int .i64), .cell (.int .i64), .cell (.int .i64), .own 39 (.pair (.int .i64) (.int .i64)), .cell (.int .i64)], [], 52⟩
noncomputable def l24_8 (k : Nat) (g3 : Y4_3) (g8 : (List Y4_0) → Int → Int → Int → (List (Int × Int)) → Int → Option Y4_2) (l_2 : List Y4_0) (i2 : Int) (most1 : Int) (k_1 : Int) (spans : List (Int × Int)) (n : Int) : Option Y4_2 :=
 (bif decide (n < (spans.length : Int)) then
  ix spans n <|
  (S26 k l_2 (rd spans n (0, 0)).1).bind fun q1 =>
  (bif decide (q1.1.1 ≤ i2) then
   ix spans n <|
   g8 l_2 i2 (mx most1 (rd spans n (0, 0)).2) k_1 spans (IntKind.i64.wrap (n + 1))
  else
   g8 l_2 i2 most1 k_1 spans (IntKind.i64.wrap (n + 1)))
 else
  g3 l_2 i2 most1 (IntKind.i64.wrap (k_1 + 1)))
noncomputable def b24_8 (k : Nat) (g3 : Y4_3) (g : ((Unit) × (List Y4_0) × Int × Int × Int × (List (Int × Int)) × Int × Unit) → Option Y4_2) (d : (Unit) × (List Y4_0) × Int × Int × Int × (List (Int × Int)) × Int × Unit) : Option Y4_2 := l24_8 k g3 (fun l_2 i2 most1 k_1 spans n => g ((), l_2, i2, most1, k_1, spans, n, ())) d.2.1 d.2.2.1 d.2.2.2.1 d.2.2.2.2.1 d.2.2.2.2.2.1 d.2.2.2.2.2.2.1
noncomputable def L24_8 (k : Nat) (g3 : Y4_3) (j : Nat) (l_2 : List Y4_0) (i2 : Int) (most1 : Int) (k_1 : Int) (spans : List (Int × Int)) (n : Int) : Option Y4_2 := iter (R := (Int × Unit) × Unit) c24_L8 (b24_8 k g3) j ((), l_2, i2, most1, k_1, spans, n, ())
theorem L24_8_s (k : Nat) (g3 : Y4_3) (j : Nat) (l_2 : List Y4_0) (i2 : Int) (most1 : Int) (k_1 : Int) (spans : List (Int × Int)) (n : Int) : L24_8 k g3 (j + 1) l_2 i2 most1 k_1 spans n = l24_8 k g3 (L24_8 k g3 j) l_2 i2 most1 k_1 spans n := iter_succ _ _ _ _
noncomputable abbrev c24_L3 : Cut := ⟨[0, 1, 5, 6], [.cell (.sl 24 Y4_1), .cell (.int .i64), .cell (.int .i64), .cell (.int .i64)], [], 52⟩
noncomputable def l24_3 (k : Nat) (g3 : Y4_3) (l_1 : List Y4_0) (i1 : Int) (most : Int) (k_ : Int) : Option Y4_2 :=
 (bif decide (k_ < (l_1.length : Int)) then
  (bif k_ == i1 then
   g3 l_1 i1 most (IntKind.i64.wrap (k_ + 1))
  else
   ix l_1 k_ <|
   (S17 k (rd l_1 k_ (0, 0, 0, [], [], []))).bind fun q0 =>
   L24_8 k g3 k l_1 i1 most k_ q0.1.2.2.1 0)
 else
  some ((most, ()), ()))
noncomputable def b24_3 (k : Nat) (g : ((Unit) × (List Y4_0) × Int × Int × Int × Unit) → Option Y4_2) (d : (Unit) × (List Y4_0) × Int × Int × Int × Unit) : Option Y4_2 := l24_3 k (fun l_1 i1 most k_ => g ((), l_1, i1, most, k_, ())) d.2.1 d.2.2.1 d.2.2.2.1 d.2.2.2.2.1
noncomputable def L24_3 (k : Nat) (j : Nat) (l_1 : List Y4_0) (i1 : Int) (most : Int) (k_ : Int) : Option Y4_2 := iter (R := (Int × Unit) × Unit) c24_L3 (b24_3 k) j ((), l_1, i1, most, k_, ())
theorem L24_3_s (k : Nat) (j : Nat) (l_1 : List Y4_0) (i1 : Int) (most : Int) (k_ : Int) : L24_3 k (j + 1) l_1 i1 most k_ = l24_3 k (L24_3 k j) l_1 i1 most k_ := iter_succ _ _ _ _
noncomputable def S24 (k : Nat) (l_ : List Y4_0) (i : Int) : Option Y4_2 :=
 L24_3 k k l_ i 0 0
noncomputable def E24 : Env := tab.env (lk [(17, F17), (26, F26)]) (hintL [])
theorem E24_ok : EnvOK Try.prog E24 := envOK_of tabOK _ _ (allFn_lk (l := [(17, F17), (26, F26)]) ⟨ok17, ok26, trivial⟩)
noncomputable def B24 (k : Nat) : Tbl (RD R24 × MD P24) := (.loop 3 c24_L3 (b24_3 k) (fun g => (fun (g3 : Y4_3) => (.loop 8 c24_L8 (b24_8 k g3) (fun g => .nil) .nil)) (fun l_1 i1 most k_ => g ((), l_1, i1, most, k_, ()))) .nil)
noncomputable def F24 : Fn := ⟨P24, R24, fun k x => S24 k x.1 x.2.1⟩
theorem ok24 : FnOK Try.prog 24 F24 := evalF_ok (E := E24) (T := B24) E24_ok mix Try.func24 rfl (by kernel_rfl) (by kernel_rfl) (fun k => by kernel_rfl) (fun k x => by kernel_rfl)
noncomputable abbrev P6 : List PT := [.val ⟨false, (.sl 5 (.int .u8)), false⟩]
noncomputable abbrev R6 : List RT := [.val ⟨false, .bool, true⟩]
noncomputable abbrev c6_L12 : Cut := ⟨[3, 5], [.own 24 Y4_1, .cell (.int .i64)], [], 37⟩
noncomputable def l6_12 (k : Nat) (g12 : (List Y4_0) → Int → Option Y4_5) (l_1 : List Y4_0) (s : Int) : Option Y4_5 :=
 (bif decide (s ≤ 4) then
  (S25 k l_1 s).bind fun q4 =>
  (S26 k l_1 s).bind fun q5 =>
  (bif q4.1.1 != q5.1.1 then
   some ((false, ()), ())
  else
   g12 l_1 (IntKind.i64.wrap (s + 1)))
 else
  some ((true, ()), ()))
noncomputable def b6_12 (k : Nat) (g : ((Unit) × (List Y4_0) × Int × Unit) → Option Y4_5) (d : (Unit) × (List Y4_0) × Int × Unit) : Option Y4_5 := l6_12 k (fun l_1 s => g ((), l_1, s, ())) d.2.1 d.2.2.1
noncomputable def L6_12 (k : Nat) (j : Nat) (l_1 : List Y4_0) (s : Int) : Option Y4_5 := iter (R := (Bool × Unit) × Unit) c6_L12 (b6_12 k) j ((), l_1, s, ())
theorem L6_12_s (k : Nat) (j : Nat) (l_1 : List Y4_0) (s : Int) : L6_12 k (j + 1) l_1 s = l6_12 k (L6_12 k j) l_1 s := iter_succ _ _ _ _
noncomputable abbrev c6_L7 : Cut := ⟨[3, 4], [.own 24 Y4_1, .cell (.int .i64)], [], 37⟩
noncomputable def l6_7 (k : Nat) (g7 : (List Y4_0) → Int → Option Y4_5) (l_ : List Y4_0) (i : Int) : Option Y4_5 :=
 (bif decide (i < (l_.length : Int)) then
  (S23 k l_ i).bind fun q2 =>
  (S24 k l_ i).bind fun q3 =>
  (bif q2.1.1 != q3.1.1 then
   some ((false, ()), ())
  else
   g7 l_ (IntKind.i64.wrap (i + 1)))
 else
  L6_12 k k l_ (-1))
noncomputable def b6_7 (k : Nat) (g : ((Unit) × (List Y4_0) × Int × Unit) → Option Y4_5) (d : (Unit) × (List Y4_0) × Int × Unit) : Option Y4_5 := l6_7 k (fun l_ i => g ((), l_, i, ())) d.2.1 d.2.2.1
noncomputable def L6_7 (k : Nat) (j : Nat) (l_ : List Y4_0) (i : Int) : Option Y4_5 := iter (R := (Bool × Unit) × Unit) c6_L7 (b6_7 k) j ((), l_, i, ())
theorem L6_7_s (k : Nat) (j : Nat) (l_ : List Y4_0) (i : Int) : L6_7 k (j + 1) l_ i = l6_7 k (L6_7 k j) l_ i := iter_succ _ _ _ _
noncomputable def S6 (k : Nat) (picks : List Int) : Option Y4_5 :=
 (S21 k).bind fun q0 =>
 (bif !q0.1.1 then
  some ((false, ()), ())
 else
  (bif decide ((picks.length : Int) > 250) then
   some ((true, ()), ())
  else
   (S22 k picks 5).bind fun q1 =>
   L6_7 k k q1.1.1 0))
noncomputable def E6 : Env := tab.env (lk [(21, F21), (22, F22), (23, F23), (24, F24), (25, F25), (26, F26)]) (hintL [])
theorem E6_ok : EnvOK Try.prog E6 := envOK_of tabOK _ _ (allFn_lk (l := [(21, F21), (22, F22), (23, F23), (24, F24), (25, F25), (26, F26)]) ⟨ok21, ok22, ok23, ok24, ok25, ok26, trivial⟩)
noncomputable def B6 (k : Nat) : Tbl (RD R6 × MD P6) := (.loop 12 c6_L12 (b6_12 k) (fun g => .nil) (.loop 7 c6_L7 (b6_7 k) (fun g => .nil) .nil))
noncomputable def F6 : Fn := ⟨P6, R6, fun k x => S6 k x.1⟩
theorem ok6 : FnOK Try.prog 6 F6 := evalF_ok (E := E6) (T := B6) E6_ok mix Try.func6 rfl (by kernel_rfl) (by kernel_rfl) (fun k => by kernel_rfl) (fun k x => by kernel_rfl)
end Go.Proofs.Ythmicjldfdadjaa.Ab
