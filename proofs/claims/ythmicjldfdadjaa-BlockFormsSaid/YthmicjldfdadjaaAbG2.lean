import Derived.Test.YthmicjldfdadjaaAbG1
/- Contracts, printed by this session's own program gen.py. -/
set_option linter.unusedVariables false
set_option linter.unusedSimpArgs false
set_option maxRecDepth 100000
namespace Go.Proofs.Ythmicjldfdadjaa.Ab
open Go.RowKit Go.Proofs.YthmicjldfdadjaaW.PrintWords
/-! ### 36: 36 foliot/task.long -/
noncomputable abbrev P36 : List PT := [.val ⟨false, (.sl 42 (.pair (.int .i64) (.pair (.int .i64) (.pair (.int .i64) (.int .i64))))), false⟩]
noncomputable abbrev R36 : List RT := [.val ⟨false, (.int .i64), true⟩]
noncomputable def S36 (k : Nat) (l_ : List (Int × Int × Int × Int)) : Option ((Int × Unit) × Unit) :=
  (S30 k l_).bind fun q0 =>
  some ((q0.1.1.1, ()), ())
noncomputable def E36 : Env := tab.env (lk [(30, F30)]) (hintL [])
theorem E36_ok : EnvOK Try.prog E36 := envOK_of tabOK _ _ (allFn_lk (l := [(30, F30)]) ⟨ok30, trivial⟩)
noncomputable def B36 (k : Nat) : Tbl (RD R36 × MD P36) := .nil
noncomputable def F36 : Fn := ⟨P36, R36, fun k x => S36 k x.1⟩
theorem ok36 : FnOK Try.prog 36 F36 := evalF_ok (E := E36) (T := B36) E36_ok mix Try.func36 rfl (by kernel_rfl) (by kernel_rfl) (fun k => by kernel_rfl) (fun k x => by kernel_rfl)
/-! ### 18: 18 foliot/task.May -/
noncomputable abbrev P18 : List PT := [.val ⟨true, (.pair (.int .i64) (.pair (.int .i64) (.pair (.int .i64) (.pair (.sl 42 (.pair (.int .i64) (.pair (.int .i64) (.pair (.int .i64) (.int .i64))))) (.pair (.sl 42 (.pair (.int .i64) (.pair (.int .i64) (.pair (.int .i64) (.int .i64))))) (.sl 42 (.pair (.int .i64) (.pair (.int .i64) (.pair (.int .i64) (.int .i64)))))))))), false⟩]
noncomputable abbrev R18 : List RT := [.val ⟨false, (.int .i64), true⟩]
noncomputable def S18 (k : Nat) (t : Int × Int × Int × (List (Int × Int × Int × Int)) × (List (Int × Int × Int × Int)) × List (Int × Int × Int × Int)) : Option ((Int × Unit) × Unit) :=
  (bif decide (t.1 < 0) then
    some ((1, ()), ())
  else
    (bif decide (t.1 > 63) then
      some ((1, ()), ())
    else
      (bif decide (t.2.1 < 1) then
        some ((9, ()), ())
      else
        (bif decide (t.2.1 > 16384) then
          some ((9, ()), ())
        else
          (bif decide (t.2.2.1 < 1) then
            some ((9, ()), ())
          else
            (bif decide (t.2.2.1 > t.2.1) then
              some ((9, ()), ())
            else
              (S33 k t.2.2.2.1).bind fun q0 =>
              (bif !q0.1.1 then
                some ((2, ()), ())
              else
                (S34 k t.2.2.2.2.1).bind fun q1 =>
                (bif !q1.1.1 then
                  some ((2, ()), ())
                else
                  (S34 k t.2.2.2.2.2).bind fun q2 =>
                  (bif !q2.1.1 then
                    some ((2, ()), ())
                  else
                    (S35 k t.2.2.2.2.2).bind fun q3 =>
                    (bif q3.1.1 then
                      some ((2, ()), ())
                    else
                      (S36 k t.2.2.2.1).bind fun q4 =>
                      (bif decide (q4.1.1 > t.2.2.1) then
                        some ((10, ()), ())
                      else
                        (S36 k t.2.2.2.2.1).bind fun q5 =>
                        (S36 k t.2.2.2.1).bind fun q6 =>
                        (bif decide (q5.1.1 > q6.1.1) then
                          some ((12, ()), ())
                        else
                          some ((0, ()), ())))))))))))))
noncomputable def E18 : Env := tab.env (lk [(33, F33), (34, F34), (35, F35), (36, F36)]) (hintL [])
theorem E18_ok : EnvOK Try.prog E18 := envOK_of tabOK _ _ (allFn_lk (l := [(33, F33), (34, F34), (35, F35), (36, F36)]) ⟨ok33, ok34, ok35, ok36, trivial⟩)
noncomputable def B18 (k : Nat) : Tbl (RD R18 × MD P18) := .nil
noncomputable def F18 : Fn := ⟨P18, R18, fun k x => S18 k x.1⟩
theorem ok18 : FnOK Try.prog 18 F18 := evalF_ok (E := E18) (T := B18) E18_ok mix Try.func18 rfl (by kernel_rfl) (by kernel_rfl) (fun k => by kernel_rfl) (fun k x => by kernel_rfl)
/-! ### 49: 49 slices.Grow[[]foliot/api.Span,foliot/api.Span] -/
noncomputable abbrev P49 : List PT := [.pv (.nil), .val ⟨false, (.int .i64), false⟩]
noncomputable abbrev R49 : List RT := [.val ⟨false, (.sl 39 (.pair (.int .i64) (.int .i64))), true⟩]
noncomputable def S49 (k : Nat) (n : Int) : Option (((List (Int × Int)) × Unit) × Unit) :=
  (bif decide (n < 0) then
    none
  else
    (bif decide ((IntKind.i64.wrap (n - 0)) > 0) then
      az ([] : List (Int × Int)) (IntKind.i64.wrap (n - 0)) 16 (0, 0) fun r0 =>
      sx r0 0 0 <|
      some ((r0.take 0, ()), ())
    else
      some (([], ()), ())))
noncomputable def E49 : Env := tab.env (lk []) (hintL [(25, 1)])
theorem E49_ok : EnvOK Try.prog E49 := envOK_of tabOK _ _ (fun f F h => by cases h)
noncomputable def B49 (k : Nat) : Tbl (RD R49 × MD P49) := .nil
noncomputable def F49 : Fn := ⟨P49, R49, fun k x => S49 k x.2.1⟩
theorem ok49 : FnOK Try.prog 49 F49 := evalF_ok (E := E49) (T := B49) E49_ok mix Try.func49 rfl (by kernel_rfl) (by kernel_rfl) (fun k => by kernel_rfl) (fun k x => by kernel_rfl)
/-! ### 31: 31 slices.Concat[[]foliot/api.Span,foliot/api.Span] -/
noncomputable abbrev P31 : List PT := [.val ⟨false, (.sl 33 (.sl 39 (.pair (.int .i64) (.int .i64)))), false⟩]
noncomputable abbrev R31 : List RT := [.val ⟨false, (.sl 39 (.pair (.int .i64) (.int .i64))), true⟩]
noncomputable abbrev c31_L11 : Cut := ⟨[6, 25, 26, 27], [.own 39 (.pair (.int .i64) (.int .i64)), .cell (.sl 33 (.sl 39 (.pair (.int .i64) (.int .i64)))), .cell (.int .i64), .cell (.int .i64)], [], 36⟩
noncomputable def l31_11 (k : Nat) (g11 : (List (Int × Int)) → (List (List (Int × Int))) → Int → Int → Option (((List (Int × Int)) × Unit) × Unit)) (newslice : List (Int × Int)) (t25 : List (List (Int × Int))) (t26 : Int) (t27 : Int) : Option (((List (Int × Int)) × Unit) × Unit) :=
  (bif decide (t27 < t26) then
    ix t25 t27 <|
    ap newslice (rd t25 t27 []) 16 fun r1 =>
    g11 r1 t25 t26 (IntKind.i64.wrap (t27 + 1))
  else
    some ((newslice, ()), ()))
noncomputable def b31_11 (k : Nat) (g : ((Unit) × (List (Int × Int)) × (List (List (Int × Int))) × Int × Int × Unit) → Option (((List (Int × Int)) × Unit) × Unit)) (d : (Unit) × (List (Int × Int)) × (List (List (Int × Int))) × Int × Int × Unit) : Option (((List (Int × Int)) × Unit) × Unit) := l31_11 k (fun newslice t25 t26 t27 => g ((), newslice, t25, t26, t27, ())) d.2.1 d.2.2.1 d.2.2.2.1 d.2.2.2.2.1
noncomputable def L31_11 (k : Nat) (j : Nat) (newslice : List (Int × Int)) (t25 : List (List (Int × Int))) (t26 : Int) (t27 : Int) : Option (((List (Int × Int)) × Unit) × Unit) := iter (R := ((List (Int × Int)) × Unit) × Unit) c31_L11 (b31_11 k) j ((), newslice, t25, t26, t27, ())
theorem L31_11_s (k : Nat) (j : Nat) (newslice : List (Int × Int)) (t25 : List (List (Int × Int))) (t26 : Int) (t27 : Int) : L31_11 k (j + 1) newslice t25 t26 t27 = l31_11 k (L31_11 k j) newslice t25 t26 t27 := iter_succ _ _ _ _
noncomputable abbrev c31_L3 : Cut := ⟨[0, 3, 9, 10, 11], [.cell (.sl 33 (.sl 39 (.pair (.int .i64) (.int .i64)))), .cell (.int .i64), .cell (.sl 33 (.sl 39 (.pair (.int .i64) (.int .i64)))), .cell (.int .i64), .cell (.int .i64)], [], 36⟩
noncomputable def l31_3 (k : Nat) (g3 : (List (List (Int × Int))) → Int → (List (List (Int × Int))) → Int → Int → Option (((List (Int × Int)) × Unit) × Unit)) (slices1 : List (List (Int × Int))) (size : Int) (t9 : List (List (Int × Int))) (t10 : Int) (t11 : Int) : Option (((List (Int × Int)) × Unit) × Unit) :=
  (bif decide (t11 < t10) then
    ix t9 t11 <|
    (bif decide ((IntKind.i64.wrap (size + ((rd t9 t11 []).length : Int))) < 0) then
      none
    else
      g3 slices1 (IntKind.i64.wrap (size + ((rd t9 t11 []).length : Int))) t9 t10 (IntKind.i64.wrap (t11 + 1)))
  else
    (S49 k size).bind fun q0 =>
    L31_11 k k q0.1.1 slices1 (slices1.length : Int) 0)
noncomputable def b31_3 (k : Nat) (g : ((Unit) × (List (List (Int × Int))) × Int × (List (List (Int × Int))) × Int × Int × Unit) → Option (((List (Int × Int)) × Unit) × Unit)) (d : (Unit) × (List (List (Int × Int))) × Int × (List (List (Int × Int))) × Int × Int × Unit) : Option (((List (Int × Int)) × Unit) × Unit) := l31_3 k (fun slices1 size t9 t10 t11 => g ((), slices1, size, t9, t10, t11, ())) d.2.1 d.2.2.1 d.2.2.2.1 d.2.2.2.2.1 d.2.2.2.2.2.1
noncomputable def L31_3 (k : Nat) (j : Nat) (slices1 : List (List (Int × Int))) (size : Int) (t9 : List (List (Int × Int))) (t10 : Int) (t11 : Int) : Option (((List (Int × Int)) × Unit) × Unit) := iter (R := ((List (Int × Int)) × Unit) × Unit) c31_L3 (b31_3 k) j ((), slices1, size, t9, t10, t11, ())
theorem L31_3_s (k : Nat) (j : Nat) (slices1 : List (List (Int × Int))) (size : Int) (t9 : List (List (Int × Int))) (t10 : Int) (t11 : Int) : L31_3 k (j + 1) slices1 size t9 t10 t11 = l31_3 k (L31_3 k j) slices1 size t9 t10 t11 := iter_succ _ _ _ _
noncomputable def S31 (k : Nat) (slices : List (List (Int × Int))) : Option (((List (Int × Int)) × Unit) × Unit) :=
  L31_3 k k slices 0 slices (slices.length : Int) 0
noncomputable def E31 : Env := tab.env (lk [(49, F49)]) (hintL [])
theorem E31_ok : EnvOK Try.prog E31 := envOK_of tabOK _ _ (allFn_lk (l := [(49, F49)]) ⟨ok49, trivial⟩)
noncomputable def B31 (k : Nat) : Tbl (RD R31 × MD P31) := (.loop 11 c31_L11 (b31_11 k) (fun g => .nil) (.loop 3 c31_L3 (b31_3 k) (fun g => .nil) .nil))
noncomputable def F31 : Fn := ⟨P31, R31, fun k x => S31 k x.1⟩
theorem ok31 : FnOK Try.prog 31 F31 := evalF_ok (E := E31) (T := B31) E31_ok mix Try.func31 rfl (by kernel_rfl) (by kernel_rfl) (fun k => by kernel_rfl) (fun k x => by kernel_rfl)
/-! ### 16: 16 foliot/task.Costs -/
noncomputable abbrev P16 : List PT := [.val ⟨true, (.pair (.int .i64) (.pair (.int .i64) (.pair (.int .i64) (.pair (.sl 42 (.pair (.int .i64) (.pair (.int .i64) (.pair (.int .i64) (.int .i64))))) (.pair (.sl 42 (.pair (.int .i64) (.pair (.int .i64) (.pair (.int .i64) (.int .i64))))) (.sl 42 (.pair (.int .i64) (.pair (.int .i64) (.pair (.int .i64) (.int .i64)))))))))), false⟩]
noncomputable abbrev R16 : List RT := [.val ⟨false, (.int .i64), true⟩, .val ⟨false, (.int .i64), true⟩, .val ⟨false, (.sl 39 (.pair (.int .i64) (.int .i64))), true⟩]
noncomputable def S16 (k : Nat) (t : Int × Int × Int × (List (Int × Int × Int × Int)) × (List (Int × Int × Int × Int)) × List (Int × Int × Int × Int)) : Option ((Int × Int × (List (Int × Int)) × Unit) × Unit) :=
  (S18 k t).bind fun q0 =>
  (bif q0.1.1 != 0 then
    some ((0, 0, [], ()), ())
  else
    (S30 k t.2.2.2.1).bind fun q1 =>
    (S30 k t.2.2.2.2.1).bind fun q2 =>
    (bif q2.1.2.1 then
      (S31 k ([q1.1.1.2.2, q2.1.1.2.2] : List (List (Int × Int)))).bind fun q3 =>
      some ((q1.1.1.1, q2.1.1.1, q3.1.1, ()), ())
    else
      (S31 k ([q1.1.1.2.2, q2.1.1.2.2] : List (List (Int × Int)))).bind fun q4 =>
      some ((q1.1.1.1, q1.1.1.2.1, q4.1.1, ()), ())))
noncomputable def E16 : Env := tab.env (lk [(18, F18), (30, F30), (31, F31)]) (hintL [])
theorem E16_ok : EnvOK Try.prog E16 := envOK_of tabOK _ _ (allFn_lk (l := [(18, F18), (30, F30), (31, F31)]) ⟨ok18, ok30, ok31, trivial⟩)
noncomputable def B16 (k : Nat) : Tbl (RD R16 × MD P16) := .nil
noncomputable def F16 : Fn := ⟨P16, R16, fun k x => S16 k x.1⟩
theorem ok16 : FnOK Try.prog 16 F16 := evalF_ok (E := E16) (T := B16) E16_ok mix Try.func16 rfl (by kernel_rfl) (by kernel_rfl) (fun k => by kernel_rfl) (fun k x => by kernel_rfl)
/-! ### 23: 23 foliot/block.By -/
noncomputable abbrev P23 : List PT := [.val ⟨false, (.sl 24 (.pair (.int .i64) (.pair (.int .i64) (.pair (.int .i64) (.pair (.sl 42 (.pair (.int .i64) (.pair (.int .i64) (.pair (.int .i64) (.int .i64))))) (.pair (.sl 42 (.pair (.int .i64) (.pair (.int .i64) (.pair (.int .i64) (.int .i64))))) (.sl 42 (.pair (.int .i64) (.pair (.int .i64) (.pair (.int .i64) (.int .i64))))))))))), false⟩, .val ⟨false, (.int .i64), false⟩]
noncomputable abbrev R23 : List RT := [.val ⟨false, (.int .i64), true⟩]
noncomputable abbrev c23_J13 : Cut := ⟨[0, 1, 4, 5, 12, 16, 17, 18, 32, 33, 34], [.cell (.sl 24 (.pair (.int .i64) (.pair (.int .i64) (.pair (.int .i64) (.pair (.sl 42 (.pair (.int .i64) (.pair (.int .i64) (.pair (.int .i64) (.int .i64))))) (.pair (.sl 42 (.pair (.int .i64) (.pair (.int .i64) (.pair (.int .i64) (.int .i64))))) (.sl 42 (.pair (.int .i64) (.pair (.int .i64) (.pair (.int .i64) (.int .i64))))))))))), .cell (.int .i64), .cell (.int .i64), .mp 73 true (.int .i64) false (.int .i64), .box 39 [.cell (.int .i64), .cell (.int .i64)], .cell (.sl 24 (.pair (.int .i64) (.pair (.int .i64) (.pair (.int .i64) (.pair (.sl 42 (.pair (.int .i64) (.pair (.int .i64) (.pair (.int .i64) (.int .i64))))) (.pair (.sl 42 (.pair (.int .i64) (.pair (.int .i64) (.pair (.int .i64) (.int .i64))))) (.sl 42 (.pair (.int .i64) (.pair (.int .i64) (.pair (.int .i64) (.int .i64))))))))))), .cell (.int .i64), .cell (.int .i64), .own 39 (.pair (.int .i64) (.int .i64)), .cell (.int .i64), .cell (.int .i64)], [], 70⟩
noncomputable def j23_13 (k : Nat) (g3 : (List (Int × Int × Int × (List (Int × Int × Int × Int)) × (List (Int × Int × Int × Int)) × List (Int × Int × Int × Int))) → Int → Int → (List (Int × Int)) → (List (Int × Int × Int × (List (Int × Int × Int × Int)) × (List (Int × Int × Int × Int)) × List (Int × Int × Int × Int))) → Int → Int → Option ((Int × Unit) × Unit)) (g8 : (List (Int × Int × Int × (List (Int × Int × Int × Int)) × (List (Int × Int × Int × Int)) × List (Int × Int × Int × Int))) → Int → Int → (List (Int × Int)) → (List (Int × Int × Int × (List (Int × Int × Int × Int)) × (List (Int × Int × Int × Int)) × List (Int × Int × Int × Int))) → Int → Int → (List (Int × Int)) → Int → Int → Option ((Int × Unit) × Unit)) (l_3 : List (Int × Int × Int × (List (Int × Int × Int × Int)) × (List (Int × Int × Int × Int)) × List (Int × Int × Int × Int))) (i3 : Int) (most2 : Int) (ceils2 : List (Int × Int)) (x : Int) (x1 : Int) (t16_2 : List (Int × Int × Int × (List (Int × Int × Int × Int)) × (List (Int × Int × Int × Int)) × List (Int × Int × Int × Int))) (t17_2 : Int) (t18_2 : Int) (t32_1 : List (Int × Int)) (t33_1 : Int) (t34_1 : Int) : Option ((Int × Unit) × Unit) :=
  (bif decide ((mget (.int .i64) (.int .i64) x ceils2 0) ≤ i3) then
    g8 l_3 i3 (mx most2 x1) ceils2 t16_2 t17_2 t18_2 t32_1 t33_1 (IntKind.i64.wrap (t34_1 + 1))
  else
    g8 l_3 i3 most2 ceils2 t16_2 t17_2 t18_2 t32_1 t33_1 (IntKind.i64.wrap (t34_1 + 1)))
noncomputable abbrev c23_L8 : Cut := ⟨[0, 1, 4, 5, 16, 17, 18, 32, 33, 34], [.cell (.sl 24 (.pair (.int .i64) (.pair (.int .i64) (.pair (.int .i64) (.pair (.sl 42 (.pair (.int .i64) (.pair (.int .i64) (.pair (.int .i64) (.int .i64))))) (.pair (.sl 42 (.pair (.int .i64) (.pair (.int .i64) (.pair (.int .i64) (.int .i64))))) (.sl 42 (.pair (.int .i64) (.pair (.int .i64) (.pair (.int .i64) (.int .i64))))))))))), .cell (.int .i64), .cell (.int .i64), .mp 73 true (.int .i64) false (.int .i64), .cell (.sl 24 (.pair (.int .i64) (.pair (.int .i64) (.pair (.int .i64) (.pair (.sl 42 (.pair (.int .i64) (.pair (.int .i64) (.pair (.int .i64) (.int .i64))))) (.pair (.sl 42 (.pair (.int .i64) (.pair (.int .i64) (.pair (.int .i64) (.int .i64))))) (.sl 42 (.pair (.int .i64) (.pair (.int .i64) (.pair (.int .i64) (.int .i64))))))))))), .cell (.int .i64), .cell (.int .i64), .own 39 (.pair (.int .i64) (.int .i64)), .cell (.int .i64), .cell (.int .i64)], [], 70⟩
noncomputable def l23_8 (k : Nat) (g3 : (List (Int × Int × Int × (List (Int × Int × Int × Int)) × (List (Int × Int × Int × Int)) × List (Int × Int × Int × Int))) → Int → Int → (List (Int × Int)) → (List (Int × Int × Int × (List (Int × Int × Int × Int)) × (List (Int × Int × Int × Int)) × List (Int × Int × Int × Int))) → Int → Int → Option ((Int × Unit) × Unit)) (g8 : (List (Int × Int × Int × (List (Int × Int × Int × Int)) × (List (Int × Int × Int × Int)) × List (Int × Int × Int × Int))) → Int → Int → (List (Int × Int)) → (List (Int × Int × Int × (List (Int × Int × Int × Int)) × (List (Int × Int × Int × Int)) × List (Int × Int × Int × Int))) → Int → Int → (List (Int × Int)) → Int → Int → Option ((Int × Unit) × Unit)) (l_2 : List (Int × Int × Int × (List (Int × Int × Int × Int)) × (List (Int × Int × Int × Int)) × List (Int × Int × Int × Int))) (i2 : Int) (most1 : Int) (ceils1 : List (Int × Int)) (t16_1 : List (Int × Int × Int × (List (Int × Int × Int × Int)) × (List (Int × Int × Int × Int)) × List (Int × Int × Int × Int))) (t17_1 : Int) (t18_1 : Int) (t32 : List (Int × Int)) (t33 : Int) (t34 : Int) : Option ((Int × Unit) × Unit) :=
  (bif decide (t34 < t33) then
    ix t32 t34 <|
    (bif !(mhas (.int .i64) (.int .i64) (rd t32 t34 (0, 0)).1 ceils1) then
      (S25 k l_2 (rd t32 t34 (0, 0)).1).bind fun q1 =>
      j23_13 k g3 g8 l_2 i2 most1 (updD (.int .i64) (.int .i64) (rd t32 t34 (0, 0)).1 q1.1.1 ceils1) (rd t32 t34 (0, 0)).1 (rd t32 t34 (0, 0)).2 t16_1 t17_1 t18_1 t32 t33 t34
    else
      j23_13 k g3 g8 l_2 i2 most1 ceils1 (rd t32 t34 (0, 0)).1 (rd t32 t34 (0, 0)).2 t16_1 t17_1 t18_1 t32 t33 t34)
  else
    g3 l_2 i2 most1 ceils1 t16_1 t17_1 (IntKind.i64.wrap (t18_1 + 1)))
noncomputable def b23_8 (k : Nat) (g3 : (List (Int × Int × Int × (List (Int × Int × Int × Int)) × (List (Int × Int × Int × Int)) × List (Int × Int × Int × Int))) → Int → Int → (List (Int × Int)) → (List (Int × Int × Int × (List (Int × Int × Int × Int)) × (List (Int × Int × Int × Int)) × List (Int × Int × Int × Int))) → Int → Int → Option ((Int × Unit) × Unit)) (g : ((Unit) × (List (Int × Int × Int × (List (Int × Int × Int × Int)) × (List (Int × Int × Int × Int)) × List (Int × Int × Int × Int))) × Int × Int × (List (Int × Int)) × (List (Int × Int × Int × (List (Int × Int × Int × Int)) × (List (Int × Int × Int × Int)) × List (Int × Int × Int × Int))) × Int × Int × (List (Int × Int)) × Int × Int × Unit) → Option ((Int × Unit) × Unit)) (d : (Unit) × (List (Int × Int × Int × (List (Int × Int × Int × Int)) × (List (Int × Int × Int × Int)) × List (Int × Int × Int × Int))) × Int × Int × (List (Int × Int)) × (List (Int × Int × Int × (List (Int × Int × Int × Int)) × (List (Int × Int × Int × Int)) × List (Int × Int × Int × Int))) × Int × Int × (List (Int × Int)) × Int × Int × Unit) : Option ((Int × Unit) × Unit) := l23_8 k g3 (fun l_2 i2 most1 ceils1 t16_1 t17_1 t18_1 t32 t33 t34 => g ((), l_2, i2, most1, ceils1, t16_1, t17_1, t18_1, t32, t33, t34, ())) d.2.1 d.2.2.1 d.2.2.2.1 d.2.2.2.2.1 d.2.2.2.2.2.1 d.2.2.2.2.2.2.1 d.2.2.2.2.2.2.2.1 d.2.2.2.2.2.2.2.2.1 d.2.2.2.2.2.2.2.2.2.1 d.2.2.2.2.2.2.2.2.2.2.1
noncomputable def L23_8 (k : Nat) (g3 : (List (Int × Int × Int × (List (Int × Int × Int × Int)) × (List (Int × Int × Int × Int)) × List (Int × Int × Int × Int))) → Int → Int → (List (Int × Int)) → (List (Int × Int × Int × (List (Int × Int × Int × Int)) × (List (Int × Int × Int × Int)) × List (Int × Int × Int × Int))) → Int → Int → Option ((Int × Unit) × Unit)) (j : Nat) (l_2 : List (Int × Int × Int × (List (Int × Int × Int × Int)) × (List (Int × Int × Int × Int)) × List (Int × Int × Int × Int))) (i2 : Int) (most1 : Int) (ceils1 : List (Int × Int)) (t16_1 : List (Int × Int × Int × (List (Int × Int × Int × Int)) × (List (Int × Int × Int × Int)) × List (Int × Int × Int × Int))) (t17_1 : Int) (t18_1 : Int) (t32 : List (Int × Int)) (t33 : Int) (t34 : Int) : Option ((Int × Unit) × Unit) := iter (R := (Int × Unit) × Unit) c23_L8 (b23_8 k g3) j ((), l_2, i2, most1, ceils1, t16_1, t17_1, t18_1, t32, t33, t34, ())
theorem L23_8_s (k : Nat) (g3 : (List (Int × Int × Int × (List (Int × Int × Int × Int)) × (List (Int × Int × Int × Int)) × List (Int × Int × Int × Int))) → Int → Int → (List (Int × Int)) → (List (Int × Int × Int × (List (Int × Int × Int × Int)) × (List (Int × Int × Int × Int)) × List (Int × Int × Int × Int))) → Int → Int → Option ((Int × Unit) × Unit)) (j : Nat) (l_2 : List (Int × Int × Int × (List (Int × Int × Int × Int)) × (List (Int × Int × Int × Int)) × List (Int × Int × Int × Int))) (i2 : Int) (most1 : Int) (ceils1 : List (Int × Int)) (t16_1 : List (Int × Int × Int × (List (Int × Int × Int × Int)) × (List (Int × Int × Int × Int)) × List (Int × Int × Int × Int))) (t17_1 : Int) (t18_1 : Int) (t32 : List (Int × Int)) (t33 : Int) (t34 : Int) : L23_8 k g3 (j + 1) l_2 i2 most1 ceils1 t16_1 t17_1 t18_1 t32 t33 t34 = l23_8 k g3 (L23_8 k g3 j) l_2 i2 most1 ceils1 t16_1 t17_1 t18_1 t32 t33 t34 := iter_succ _ _ _ _
noncomputable abbrev c23_L3 : Cut := ⟨[0, 1, 4, 5, 16, 17, 18], [.cell (.sl 24 (.pair (.int .i64) (.pair (.int .i64) (.pair (.int .i64) (.pair (.sl 42 (.pair (.int .i64) (.pair (.int .i64) (.pair (.int .i64) (.int .i64))))) (.pair (.sl 42 (.pair (.int .i64) (.pair (.int .i64) (.pair (.int .i64) (.int .i64))))) (.sl 42 (.pair (.int .i64) (.pair (.int .i64) (.pair (.int .i64) (.int .i64))))))))))), .cell (.int .i64), .cell (.int .i64), .mp 73 true (.int .i64) false (.int .i64), .cell (.sl 24 (.pair (.int .i64) (.pair (.int .i64) (.pair (.int .i64) (.pair (.sl 42 (.pair (.int .i64) (.pair (.int .i64) (.pair (.int .i64) (.int .i64))))) (.pair (.sl 42 (.pair (.int .i64) (.pair (.int .i64) (.pair (.int .i64) (.int .i64))))) (.sl 42 (.pair (.int .i64) (.pair (.int .i64) (.pair (.int .i64) (.int .i64))))))))))), .cell (.int .i64), .cell (.int .i64)], [], 70⟩
noncomputable def l23_3 (k : Nat) (g3 : (List (Int × Int × Int × (List (Int × Int × Int × Int)) × (List (Int × Int × Int × Int)) × List (Int × Int × Int × Int))) → Int → Int → (List (Int × Int)) → (List (Int × Int × Int × (List (Int × Int × Int × Int)) × (List (Int × Int × Int × Int)) × List (Int × Int × Int × Int))) → Int → Int → Option ((Int × Unit) × Unit)) (l_1 : List (Int × Int × Int × (List (Int × Int × Int × Int)) × (List (Int × Int × Int × Int)) × List (Int × Int × Int × Int))) (i1 : Int) (most : Int) (ceils : List (Int × Int)) (t16 : List (Int × Int × Int × (List (Int × Int × Int × Int)) × (List (Int × Int × Int × Int)) × List (Int × Int × Int × Int))) (t17 : Int) (t18 : Int) : Option ((Int × Unit) × Unit) :=
  (bif decide (t18 < t17) then
    ix t16 t18 <|
    (bif t18 == i1 then
      g3 l_1 i1 most ceils t16 t17 (IntKind.i64.wrap (t18 + 1))
    else
      (S16 k (rd t16 t18 (0, 0, 0, [], [], []))).bind fun q0 =>
      L23_8 k g3 k l_1 i1 most ceils t16 t17 t18 q0.1.2.2.1 (q0.1.2.2.1.length : Int) 0)
  else
    some ((most, ()), ()))
noncomputable def b23_3 (k : Nat) (g : ((Unit) × (List (Int × Int × Int × (List (Int × Int × Int × Int)) × (List (Int × Int × Int × Int)) × List (Int × Int × Int × Int))) × Int × Int × (List (Int × Int)) × (List (Int × Int × Int × (List (Int × Int × Int × Int)) × (List (Int × Int × Int × Int)) × List (Int × Int × Int × Int))) × Int × Int × Unit) → Option ((Int × Unit) × Unit)) (d : (Unit) × (List (Int × Int × Int × (List (Int × Int × Int × Int)) × (List (Int × Int × Int × Int)) × List (Int × Int × Int × Int))) × Int × Int × (List (Int × Int)) × (List (Int × Int × Int × (List (Int × Int × Int × Int)) × (List (Int × Int × Int × Int)) × List (Int × Int × Int × Int))) × Int × Int × Unit) : Option ((Int × Unit) × Unit) := l23_3 k (fun l_1 i1 most ceils t16 t17 t18 => g ((), l_1, i1, most, ceils, t16, t17, t18, ())) d.2.1 d.2.2.1 d.2.2.2.1 d.2.2.2.2.1 d.2.2.2.2.2.1 d.2.2.2.2.2.2.1 d.2.2.2.2.2.2.2.1
noncomputable def L23_3 (k : Nat) (j : Nat) (l_1 : List (Int × Int × Int × (List (Int × Int × Int × Int)) × (List (Int × Int × Int × Int)) × List (Int × Int × Int × Int))) (i1 : Int) (most : Int) (ceils : List (Int × Int)) (t16 : List (Int × Int × Int × (List (Int × Int × Int × Int)) × (List (Int × Int × Int × Int)) × List (Int × Int × Int × Int))) (t17 : Int) (t18 : Int) : Option ((Int × Unit) × Unit) := iter (R := (Int × Unit) × Unit) c23_L3 (b23_3 k) j ((), l_1, i1, most, ceils, t16, t17, t18, ())
theorem L23_3_s (k : Nat) (j : Nat) (l_1 : List (Int × Int × Int × (List (Int × Int × Int × Int)) × (List (Int × Int × Int × Int)) × List (Int × Int × Int × Int))) (i1 : Int) (most : Int) (ceils : List (Int × Int)) (t16 : List (Int × Int × Int × (List (Int × Int × Int × Int)) × (List (Int × Int × Int × Int)) × List (Int × Int × Int × Int))) (t17 : Int) (t18 : Int) : L23_3 k (j + 1) l_1 i1 most ceils t16 t17 t18 = l23_3 k (L23_3 k j) l_1 i1 most ceils t16 t17 t18 := iter_succ _ _ _ _
noncomputable def S23 (k : Nat) (l_ : List (Int × Int × Int × (List (Int × Int × Int × Int)) × (List (Int × Int × Int × Int)) × List (Int × Int × Int × Int))) (i : Int) : Option ((Int × Unit) × Unit) :=
  L23_3 k k l_ i 0 ([] : List (Int × Int)) l_ (l_.length : Int) 0
noncomputable def E23 : Env := tab.env (lk [(16, F16), (25, F25)]) (hintL [])
theorem E23_ok : EnvOK Try.prog E23 := envOK_of tabOK _ _ (allFn_lk (l := [(16, F16), (25, F25)]) ⟨ok16, ok25, trivial⟩)
noncomputable def B23 (k : Nat) : Tbl (RD R23 × MD P23) := (.loop 3 c23_L3 (b23_3 k) (fun g => (fun (g3 : (List (Int × Int × Int × (List (Int × Int × Int × Int)) × (List (Int × Int × Int × Int)) × List (Int × Int × Int × Int))) → Int → Int → (List (Int × Int)) → (List (Int × Int × Int × (List (Int × Int × Int × Int)) × (List (Int × Int × Int × Int)) × List (Int × Int × Int × Int))) → Int → Int → Option ((Int × Unit) × Unit)) => (.loop 8 c23_L8 (b23_8 k g3) (fun g => (fun (g8 : (List (Int × Int × Int × (List (Int × Int × Int × Int)) × (List (Int × Int × Int × Int)) × List (Int × Int × Int × Int))) → Int → Int → (List (Int × Int)) → (List (Int × Int × Int × (List (Int × Int × Int × Int)) × (List (Int × Int × Int × Int)) × List (Int × Int × Int × Int))) → Int → Int → (List (Int × Int)) → Int → Int → Option ((Int × Unit) × Unit)) => (.join 13 c23_J13 (fun d => j23_13 k g3 g8 d.2.1 d.2.2.1 d.2.2.2.1 d.2.2.2.2.1 d.2.2.2.2.2.1.1 d.2.2.2.2.2.1.2.1 d.2.2.2.2.2.2.1 d.2.2.2.2.2.2.2.1 d.2.2.2.2.2.2.2.2.1 d.2.2.2.2.2.2.2.2.2.1 d.2.2.2.2.2.2.2.2.2.2.1 d.2.2.2.2.2.2.2.2.2.2.2.1) .nil)) (fun l_2 i2 most1 ceils1 t16_1 t17_1 t18_1 t32 t33 t34 => g ((), l_2, i2, most1, ceils1, t16_1, t17_1, t18_1, t32, t33, t34, ()))) .nil)) (fun l_1 i1 most ceils t16 t17 t18 => g ((), l_1, i1, most, ceils, t16, t17, t18, ()))) .nil)
noncomputable def F23 : Fn := ⟨P23, R23, fun k x => S23 k x.1 x.2.1⟩
theorem ok23 : FnOK Try.prog 23 F23 := evalF_ok (E := E23) (T := B23) E23_ok mix Try.func23 rfl (by kernel_rfl) (by kernel_rfl) (fun k => by kernel_rfl) (fun k x => by kernel_rfl)
/-! ### 21: 21 foliot/foliotlaw16.begun -/
noncomputable abbrev P21 : List PT := []
noncomputable abbrev R21 : List RT := [.val ⟨false, .bool, true⟩]
noncomputable def S21 (k : Nat) : Option ((Bool × Unit) × Unit) :=
  (S25 k ([(1, 9, 9, ([(9, 0, 0, 0), (10, 0, 0, 0), (0, 0, 0, 0)] : List (Int × Int × Int × Int)), [], []), (2, 9, 9, ([(9, 0, 0, 0), (1, 0, 0, 0), (10, 0, 0, 0), (0, 0, 0, 0)] : List (Int × Int × Int × Int)), [], [])] : List (Int × Int × Int × (List (Int × Int × Int × Int)) × (List (Int × Int × Int × Int)) × List (Int × Int × Int × Int))) 0).bind fun q0 =>
  (bif q0.1.1 == 0 then
    (S25 k ([(1, 9, 9, ([(9, 0, 0, 0), (10, 0, 0, 0), (0, 0, 0, 0)] : List (Int × Int × Int × Int)), [], []), (2, 9, 9, ([(9, 0, 0, 0), (1, 0, 0, 0), (10, 0, 0, 0), (0, 0, 0, 0)] : List (Int × Int × Int × Int)), [], [])] : List (Int × Int × Int × (List (Int × Int × Int × Int)) × (List (Int × Int × Int × Int)) × List (Int × Int × Int × Int))) 1).bind fun q1 =>
    (bif q1.1.1 == 8 then
      (S23 k ([(1, 9, 9, ([(9, 0, 0, 0), (10, 0, 0, 0), (0, 0, 0, 0)] : List (Int × Int × Int × Int)), [], []), (2, 9, 9, ([(9, 0, 0, 0), (1, 0, 0, 0), (10, 0, 0, 0), (0, 0, 0, 0)] : List (Int × Int × Int × Int)), [], [])] : List (Int × Int × Int × (List (Int × Int × Int × Int)) × (List (Int × Int × Int × Int)) × List (Int × Int × Int × Int))) 0).bind fun q2 =>
      (bif q2.1.1 == 2 then
        (S23 k ([(1, 9, 9, ([(9, 0, 0, 0), (10, 0, 0, 0), (0, 0, 0, 0)] : List (Int × Int × Int × Int)), [], []), (2, 9, 9, ([(9, 0, 0, 0), (1, 0, 0, 0), (10, 0, 0, 0), (0, 0, 0, 0)] : List (Int × Int × Int × Int)), [], [])] : List (Int × Int × Int × (List (Int × Int × Int × Int)) × (List (Int × Int × Int × Int)) × List (Int × Int × Int × Int))) 1).bind fun q3 =>
        some ((q3.1.1 == 1, ()), ())
      else
        some ((false, ()), ()))
    else
      some ((false, ()), ()))
  else
    some ((false, ()), ()))
noncomputable def E21 : Env := tab.env (lk [(23, F23), (25, F25)]) (hintL [])
theorem E21_ok : EnvOK Try.prog E21 := envOK_of tabOK _ _ (allFn_lk (l := [(23, F23), (25, F25)]) ⟨ok23, ok25, trivial⟩)
noncomputable def B21 (k : Nat) : Tbl (RD R21 × MD P21) := .nil
noncomputable def F21 : Fn := ⟨P21, R21, fun k x => S21 k ⟩
theorem ok21 : FnOK Try.prog 21 F21 := evalF_ok (E := E21) (T := B21) E21_ok mix Try.func21 rfl (by kernel_rfl) (by kernel_rfl) (fun k => by kernel_rfl) (fun k x => by kernel_rfl)
/-! ### 9: 9 foliot/foliotlaw16.BlockForms -/
noncomputable abbrev P9 : List PT := []
noncomputable abbrev R9 : List RT := [.val ⟨false, .bool, true⟩]
noncomputable abbrev c9_L13 : Cut := ⟨[8, 10, 11], [.own 24 (.pair (.int .i64) (.pair (.int .i64) (.pair (.int .i64) (.pair (.sl 42 (.pair (.int .i64) (.pair (.int .i64) (.pair (.int .i64) (.int .i64))))) (.pair (.sl 42 (.pair (.int .i64) (.pair (.int .i64) (.pair (.int .i64) (.int .i64))))) (.sl 42 (.pair (.int .i64) (.pair (.int .i64) (.pair (.int .i64) (.int .i64)))))))))), .own 2 (.int .i64), .cell (.int .i64)], [], 95⟩
noncomputable def l9_13 (k : Nat) (g13 : (List (Int × Int × Int × (List (Int × Int × Int × Int)) × (List (Int × Int × Int × Int)) × List (Int × Int × Int × Int))) → (List Int) → Int → Option ((Bool × Unit) × Unit)) (l_1 : List (Int × Int × Int × (List (Int × Int × Int × Int)) × (List (Int × Int × Int × Int)) × List (Int × Int × Int × Int))) (want : List Int) (i1 : Int) : Option ((Bool × Unit) × Unit) :=
  (bif decide (i1 < 5) then
    (S23 k l_1 i1).bind fun q2 =>
    ix want i1 <|
    (bif q2.1.1 != (rd want i1 0) then
      some ((false, ()), ())
    else
      g13 l_1 want (IntKind.i64.wrap (i1 + 1)))
  else
    (S25 k l_1 0).bind fun q3 =>
    (bif q3.1.1 == 1 then
      (S25 k l_1 1).bind fun q4 =>
      (bif q4.1.1 == 2 then
        (S25 k l_1 2).bind fun q5 =>
        (bif q5.1.1 == 8 then
          (S25 k l_1 (-1)).bind fun q6 =>
          (bif q6.1.1 == 8 then
            (S25 k [] 0).bind fun q7 =>
            some ((q7.1.1 == 8, ()), ())
          else
            some ((false, ()), ()))
        else
          some ((false, ()), ()))
      else
        some ((false, ()), ()))
    else
      some ((false, ()), ())))
noncomputable def b9_13 (k : Nat) (g : ((Unit) × (List (Int × Int × Int × (List (Int × Int × Int × Int)) × (List (Int × Int × Int × Int)) × List (Int × Int × Int × Int))) × (List Int) × Int × Unit) → Option ((Bool × Unit) × Unit)) (d : (Unit) × (List (Int × Int × Int × (List (Int × Int × Int × Int)) × (List (Int × Int × Int × Int)) × List (Int × Int × Int × Int))) × (List Int) × Int × Unit) : Option ((Bool × Unit) × Unit) := l9_13 k (fun l_1 want i1 => g ((), l_1, want, i1, ())) d.2.1 d.2.2.1 d.2.2.2.1
noncomputable def L9_13 (k : Nat) (j : Nat) (l_1 : List (Int × Int × Int × (List (Int × Int × Int × Int)) × (List (Int × Int × Int × Int)) × List (Int × Int × Int × Int))) (want : List Int) (i1 : Int) : Option ((Bool × Unit) × Unit) := iter (R := (Bool × Unit) × Unit) c9_L13 (b9_13 k) j ((), l_1, want, i1, ())
theorem L9_13_s (k : Nat) (j : Nat) (l_1 : List (Int × Int × Int × (List (Int × Int × Int × Int)) × (List (Int × Int × Int × Int)) × List (Int × Int × Int × Int))) (want : List Int) (i1 : Int) : L9_13 k (j + 1) l_1 want i1 = l9_13 k (L9_13 k j) l_1 want i1 := iter_succ _ _ _ _
noncomputable abbrev c9_L8 : Cut := ⟨[7, 8, 9], [.own 22 (.sl 42 (.pair (.int .i64) (.pair (.int .i64) (.pair (.int .i64) (.int .i64))))), .own 24 (.pair (.int .i64) (.pair (.int .i64) (.pair (.int .i64) (.pair (.sl 42 (.pair (.int .i64) (.pair (.int .i64) (.pair (.int .i64) (.int .i64))))) (.pair (.sl 42 (.pair (.int .i64) (.pair (.int .i64) (.pair (.int .i64) (.int .i64))))) (.sl 42 (.pair (.int .i64) (.pair (.int .i64) (.pair (.int .i64) (.int .i64)))))))))), .cell (.int .i64)], [], 95⟩
noncomputable def l9_8 (k : Nat) (g8 : (List (List (Int × Int × Int × Int))) → (List (Int × Int × Int × (List (Int × Int × Int × Int)) × (List (Int × Int × Int × Int)) × List (Int × Int × Int × Int))) → Int → Option ((Bool × Unit) × Unit)) (codes : List (List (Int × Int × Int × Int))) (l_ : List (Int × Int × Int × (List (Int × Int × Int × Int)) × (List (Int × Int × Int × Int)) × List (Int × Int × Int × Int))) (i : Int) : Option ((Bool × Unit) × Unit) :=
  (bif decide (i < 5) then
    ix codes i <|
    ap l_ ([(i, 99, 99, rd codes i [], [], [])] : List (Int × Int × Int × (List (Int × Int × Int × Int)) × (List (Int × Int × Int × Int)) × List (Int × Int × Int × Int))) 96 fun r1 =>
    g8 codes r1 (IntKind.i64.wrap (i + 1))
  else
    L9_13 k k l_ ([0, 3, 3, 4, 4] : List Int) 0)
noncomputable def b9_8 (k : Nat) (g : ((Unit) × (List (List (Int × Int × Int × Int))) × (List (Int × Int × Int × (List (Int × Int × Int × Int)) × (List (Int × Int × Int × Int)) × List (Int × Int × Int × Int))) × Int × Unit) → Option ((Bool × Unit) × Unit)) (d : (Unit) × (List (List (Int × Int × Int × Int))) × (List (Int × Int × Int × (List (Int × Int × Int × Int)) × (List (Int × Int × Int × Int)) × List (Int × Int × Int × Int))) × Int × Unit) : Option ((Bool × Unit) × Unit) := l9_8 k (fun codes l_ i => g ((), codes, l_, i, ())) d.2.1 d.2.2.1 d.2.2.2.1
noncomputable def L9_8 (k : Nat) (j : Nat) (codes : List (List (Int × Int × Int × Int))) (l_ : List (Int × Int × Int × (List (Int × Int × Int × Int)) × (List (Int × Int × Int × Int)) × List (Int × Int × Int × Int))) (i : Int) : Option ((Bool × Unit) × Unit) := iter (R := (Bool × Unit) × Unit) c9_L8 (b9_8 k) j ((), codes, l_, i, ())
theorem L9_8_s (k : Nat) (j : Nat) (codes : List (List (Int × Int × Int × Int))) (l_ : List (Int × Int × Int × (List (Int × Int × Int × Int)) × (List (Int × Int × Int × Int)) × List (Int × Int × Int × Int))) (i : Int) : L9_8 k (j + 1) codes l_ i = l9_8 k (L9_8 k j) codes l_ i := iter_succ _ _ _ _
noncomputable def S9 (k : Nat) : Option ((Bool × Unit) × Unit) :=
  (S21 k).bind fun q0 =>
  (bif !q0.1.1 then
    some ((false, ()), ())
  else
    L9_8 k k ([([(1, 0, 0, 0), (0, 0, 0, 0)] : List (Int × Int × Int × Int)), ([(9, 0, 0, 0), (1, 0, 0, 0), (10, 0, 0, 0), (0, 0, 0, 0)] : List (Int × Int × Int × Int)), ([(9, 1, 0, 0), (1, 0, 0, 0), (1, 0, 0, 0), (1, 0, 0, 0), (10, 1, 0, 0), (0, 0, 0, 0)] : List (Int × Int × Int × Int)), ([(9, 0, 0, 0), (1, 0, 0, 0), (1, 0, 0, 0), (10, 0, 0, 0), (9, 1, 0, 0), (10, 1, 0, 0), (0, 0, 0, 0)] : List (Int × Int × Int × Int)), ([(1, 0, 0, 0), (0, 0, 0, 0)] : List (Int × Int × Int × Int))] : List (List (Int × Int × Int × Int))) ([] : List (Int × Int × Int × (List (Int × Int × Int × Int)) × (List (Int × Int × Int × Int)) × List (Int × Int × Int × Int))) 0)
noncomputable def E9 : Env := tab.env (lk [(21, F21), (23, F23), (25, F25)]) (hintL [(8, 2)])
theorem E9_ok : EnvOK Try.prog E9 := envOK_of tabOK _ _ (allFn_lk (l := [(21, F21), (23, F23), (25, F25)]) ⟨ok21, ok23, ok25, trivial⟩)
noncomputable def B9 (k : Nat) : Tbl (RD R9 × MD P9) := (.loop 13 c9_L13 (b9_13 k) (fun g => .nil) (.loop 8 c9_L8 (b9_8 k) (fun g => .nil) .nil))
noncomputable def F9 : Fn := ⟨P9, R9, fun k x => S9 k ⟩
theorem ok9 : FnOK Try.prog 9 F9 := evalF_ok (E := E9) (T := B9) E9_ok mix Try.func9 rfl (by kernel_rfl) (by kernel_rfl) (fun k => by kernel_rfl) (fun k x => by kernel_rfl)
end Go.Proofs.Ythmicjldfdadjaa.Ab
