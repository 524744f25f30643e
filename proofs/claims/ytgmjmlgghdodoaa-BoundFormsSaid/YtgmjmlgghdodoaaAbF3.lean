import Derived.Test.YtgmjmlgghdodoaaAbF2
/- Contracts, printed by this session's own program gen.py. -/
set_option linter.unusedVariables false
set_option linter.unusedSimpArgs false
set_option maxRecDepth 100000
namespace Go.Proofs.Ytgmjmlgghdodoaa.Ab
open Go.RowKit Go.Proofs.YtgmjmlgghdodoaaW.PrintWords
/-! ### 15: 15 foliot/foliotlaw17.program -/
noncomputable abbrev P15 : List PT := [.val ⟨false, (.int .i64), false⟩]
noncomputable abbrev R15 : List RT := [.val ⟨false, (.sl 48 (.pair (.int .i64) (.pair (.int .i64) (.pair (.int .i64) (.int .i64))))), true⟩]
noncomputable abbrev c15_L3 : Cut := ⟨[0, 3, 4], [.cell (.int .i64), .own 48 (.pair (.int .i64) (.pair (.int .i64) (.pair (.int .i64) (.int .i64)))), .cell (.int .i64)], [], 18⟩
noncomputable def l15_3 (k : Nat) (g3 : Int → (List (Int × Int × Int × Int)) → Int → Option (((List (Int × Int × Int × Int)) × Unit) × Unit)) (n1 : Int) (l_ : List (Int × Int × Int × Int)) (i : Int) : Option (((List (Int × Int × Int × Int)) × Unit) × Unit) :=
  (bif decide (i < (IntKind.i64.wrap (n1 - 1))) then
    ix l_ i <|
    g3 n1 (upd l_ i (1, (rd l_ i (0, 0, 0, 0)).2)) (IntKind.i64.wrap (i + 1))
  else
    some ((l_, ()), ()))
noncomputable def b15_3 (k : Nat) (g : ((Unit) × Int × (List (Int × Int × Int × Int)) × Int × Unit) → Option (((List (Int × Int × Int × Int)) × Unit) × Unit)) (d : (Unit) × Int × (List (Int × Int × Int × Int)) × Int × Unit) : Option (((List (Int × Int × Int × Int)) × Unit) × Unit) := l15_3 k (fun n1 l_ i => g ((), n1, l_, i, ())) d.2.1 d.2.2.1 d.2.2.2.1
noncomputable def L15_3 (k : Nat) (j : Nat) (n1 : Int) (l_ : List (Int × Int × Int × Int)) (i : Int) : Option (((List (Int × Int × Int × Int)) × Unit) × Unit) := iter (R := ((List (Int × Int × Int × Int)) × Unit) × Unit) c15_L3 (b15_3 k) j ((), n1, l_, i, ())
theorem L15_3_s (k : Nat) (j : Nat) (n1 : Int) (l_ : List (Int × Int × Int × Int)) (i : Int) : L15_3 k (j + 1) n1 l_ i = l15_3 k (L15_3 k j) n1 l_ i := iter_succ _ _ _ _
noncomputable def S15 (k : Nat) (n : Int) : Option (((List (Int × Int × Int × Int)) × Unit) × Unit) :=
  mk n n 32 <|
  L15_3 k k n (List.replicate n.toNat ((0, 0, 0, 0) : Int × Int × Int × Int)) 0
noncomputable def E15 : Env := tab.env (lk []) (hintL [])
theorem E15_ok : EnvOK Try.prog E15 := envOK_of tabOK _ _ (fun f F h => by cases h)
noncomputable def B15 (k : Nat) : Tbl (RD R15 × MD P15) := (.loop 3 c15_L3 (b15_3 k) (fun g => .nil) .nil)
noncomputable def F15 : Fn := ⟨P15, R15, fun k x => S15 k x.1⟩
theorem ok15 : FnOK Try.prog 15 F15 := evalF_ok (E := E15) (T := B15) E15_ok mix Try.func15 rfl (by kernel_rfl) (by kernel_rfl) (fun k => by kernel_rfl) (fun k x => by kernel_rfl)
/-! ### 6: 6 foliot/foliotlaw17.BoundForms -/
noncomputable abbrev P6 : List PT := []
noncomputable abbrev R6 : List RT := [.val ⟨false, .bool, true⟩]
noncomputable abbrev c6_L7 : Cut := ⟨[2, 3, 4, 5], [.own 36 (.pair (.int .i64) (.pair (.int .i64) (.pair (.int .i64) (.pair (.sl 48 (.pair (.int .i64) (.pair (.int .i64) (.pair (.int .i64) (.int .i64))))) (.pair (.sl 48 (.pair (.int .i64) (.pair (.int .i64) (.pair (.int .i64) (.int .i64))))) (.sl 48 (.pair (.int .i64) (.pair (.int .i64) (.pair (.int .i64) (.int .i64)))))))))), .own 2 (.int .i64), .own 2 (.int .i64), .cell (.int .i64)], [], 152⟩
noncomputable def l6_7 (k : Nat) (g7 : (List (Int × Int × Int × (List (Int × Int × Int × Int)) × (List (Int × Int × Int × Int)) × List (Int × Int × Int × Int))) → (List Int) → (List Int) → Int → Option ((Bool × Unit) × Unit)) (l_ : List (Int × Int × Int × (List (Int × Int × Int × Int)) × (List (Int × Int × Int × Int)) × List (Int × Int × Int × Int))) (want : List Int) (aparts : List Int) (i : Int) : Option ((Bool × Unit) × Unit) :=
  (bif decide (i < 3) then
    ix aparts i <|
    (S11 k l_ i (rd aparts i 0)).bind fun q3 =>
    (bif q3.1.2.2.1 != 0 then
      some ((false, ()), ())
    else
      ix want i <|
      (bif q3.1.1 != (rd want i 0) then
        some ((false, ()), ())
      else
        g7 l_ want aparts (IntKind.i64.wrap (i + 1))))
  else
    (S11 k l_ 0 3).bind fun q4 =>
    (S11 k l_ 0 1).bind fun q5 =>
    (S11 k l_ 2 10).bind fun q6 =>
    ix l_ 2 <|
    (S11 k (upd l_ 2 ((rd l_ 2 (0, 0, 0, [], [], [])).1, (rd l_ 2 (0, 0, 0, [], [], [])).2.1, 17, (rd l_ 2 (0, 0, 0, [], [], [])).2.2.2)) 2 100).bind fun q7 =>
    (S11 k (upd l_ 2 ((rd l_ 2 (0, 0, 0, [], [], [])).1, (rd l_ 2 (0, 0, 0, [], [], [])).2.1, 17, (rd l_ 2 (0, 0, 0, [], [], [])).2.2.2)) 3 100).bind fun q8 =>
    (S11 k (upd l_ 2 ((rd l_ 2 (0, 0, 0, [], [], [])).1, (rd l_ 2 (0, 0, 0, [], [], [])).2.1, 17, (rd l_ 2 (0, 0, 0, [], [], [])).2.2.2)) (-1) 100).bind fun q9 =>
    ix (upd l_ 2 ((rd l_ 2 (0, 0, 0, [], [], [])).1, (rd l_ 2 (0, 0, 0, [], [], [])).2.1, 17, (rd l_ 2 (0, 0, 0, [], [], [])).2.2.2)) 1 <|
    ix (upd l_ 2 ((rd l_ 2 (0, 0, 0, [], [], [])).1, (rd l_ 2 (0, 0, 0, [], [], [])).2.1, 17, (rd l_ 2 (0, 0, 0, [], [], [])).2.2.2)) 0 <|
    (S11 k ([rd (upd l_ 2 ((rd l_ 2 (0, 0, 0, [], [], [])).1, (rd l_ 2 (0, 0, 0, [], [], [])).2.1, 17, (rd l_ 2 (0, 0, 0, [], [], [])).2.2.2)) 1 (0, 0, 0, [], [], []), rd (upd l_ 2 ((rd l_ 2 (0, 0, 0, [], [], [])).1, (rd l_ 2 (0, 0, 0, [], [], [])).2.1, 17, (rd l_ 2 (0, 0, 0, [], [], [])).2.2.2)) 0 (0, 0, 0, [], [], [])] : List (Int × Int × Int × (List (Int × Int × Int × Int)) × (List (Int × Int × Int × Int)) × List (Int × Int × Int × Int))) 0 100).bind fun q10 =>
    (bif q4.1.2.2.1 == 0 then
      (bif q4.1.1 == 6 then
        (bif q5.1.2.2.1 == 14 then
          (bif q6.1.2.2.1 == 0 then
            (bif q7.1.2.2.1 == 14 then
              (bif q8.1.2.2.1 == 1 then
                (bif q9.1.2.2.1 == 1 then
                  some ((q10.1.2.2.1 == 1, ()), ())
                else
                  some ((false, ()), ()))
              else
                some ((false, ()), ()))
            else
              some ((false, ()), ()))
          else
            (bif q6.1.2.2.1 == 14 then
              (bif q7.1.2.2.1 == 14 then
                (bif q8.1.2.2.1 == 1 then
                  (bif q9.1.2.2.1 == 1 then
                    some ((q10.1.2.2.1 == 1, ()), ())
                  else
                    some ((false, ()), ()))
                else
                  some ((false, ()), ()))
              else
                some ((false, ()), ()))
            else
              some ((false, ()), ())))
        else
          some ((false, ()), ()))
      else
        some ((false, ()), ()))
    else
      some ((false, ()), ())))
noncomputable def b6_7 (k : Nat) (g : ((Unit) × (List (Int × Int × Int × (List (Int × Int × Int × Int)) × (List (Int × Int × Int × Int)) × List (Int × Int × Int × Int))) × (List Int) × (List Int) × Int × Unit) → Option ((Bool × Unit) × Unit)) (d : (Unit) × (List (Int × Int × Int × (List (Int × Int × Int × Int)) × (List (Int × Int × Int × Int)) × List (Int × Int × Int × Int))) × (List Int) × (List Int) × Int × Unit) : Option ((Bool × Unit) × Unit) := l6_7 k (fun l_ want aparts i => g ((), l_, want, aparts, i, ())) d.2.1 d.2.2.1 d.2.2.2.1 d.2.2.2.2.1
noncomputable def L6_7 (k : Nat) (j : Nat) (l_ : List (Int × Int × Int × (List (Int × Int × Int × Int)) × (List (Int × Int × Int × Int)) × List (Int × Int × Int × Int))) (want : List Int) (aparts : List Int) (i : Int) : Option ((Bool × Unit) × Unit) := iter (R := (Bool × Unit) × Unit) c6_L7 (b6_7 k) j ((), l_, want, aparts, i, ())
theorem L6_7_s (k : Nat) (j : Nat) (l_ : List (Int × Int × Int × (List (Int × Int × Int × Int)) × (List (Int × Int × Int × Int)) × List (Int × Int × Int × Int))) (want : List Int) (aparts : List Int) (i : Int) : L6_7 k (j + 1) l_ want aparts i = l6_7 k (L6_7 k j) l_ want aparts i := iter_succ _ _ _ _
noncomputable def S6 (k : Nat) : Option ((Bool × Unit) × Unit) :=
  (S9 k).bind fun q0 =>
  (bif !q0.1.1 then
    some ((false, ()), ())
  else
    (S15 k 2).bind fun q1 =>
    (S15 k 5).bind fun q2 =>
    L6_7 k k ([(0, 10, 10, q1.1.1, [], []), (1, 14, 14, q1.1.1, [], []), (2, 50, 40, q2.1.1, [], [])] : List (Int × Int × Int × (List (Int × Int × Int × Int)) × (List (Int × Int × Int × Int)) × List (Int × Int × Int × Int))) ([4, 6, 18] : List Int) ([100, 100, 100] : List Int) 0)
noncomputable def E6 : Env := tab.env (lk [(9, F9), (11, F11), (15, F15)]) (hintL [])
theorem E6_ok : EnvOK Try.prog E6 := envOK_of tabOK _ _ (allFn_lk (l := [(9, F9), (11, F11), (15, F15)]) ⟨ok9, ok11, ok15, trivial⟩)
noncomputable def B6 (k : Nat) : Tbl (RD R6 × MD P6) := (.loop 7 c6_L7 (b6_7 k) (fun g => .nil) .nil)
noncomputable def F6 : Fn := ⟨P6, R6, fun k x => S6 k ⟩
theorem ok6 : FnOK Try.prog 6 F6 := evalF_ok (E := E6) (T := B6) E6_ok mix Try.func6 rfl (by kernel_rfl) (by kernel_rfl) (fun k => by kernel_rfl) (fun k x => by kernel_rfl)
end Go.Proofs.Ytgmjmlgghdodoaa.Ab
