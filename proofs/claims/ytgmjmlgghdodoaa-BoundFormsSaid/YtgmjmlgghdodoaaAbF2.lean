import Derived.Test.YtgmjmlgghdodoaaAbF1
/- Contracts, printed by this session's own program gen.py. -/
set_option linter.unusedVariables false
set_option linter.unusedSimpArgs false
set_option maxRecDepth 100000
namespace Go.Proofs.Ytgmjmlgghdodoaa.Ab
open Go.RowKit Go.Proofs.YtgmjmlgghdodoaaW.PrintWords
/-! ### 37: 37 slices.Concat[[]foliot/api.Span,foliot/api.Span] -/
noncomputable abbrev P37 : List PT := [.val ⟨false, (.sl 44 (.sl 61 (.pair (.int .i64) (.int .i64)))), false⟩]
noncomputable abbrev R37 : List RT := [.val ⟨false, (.sl 61 (.pair (.int .i64) (.int .i64))), true⟩]
noncomputable abbrev c37_L11 : Cut := ⟨[6, 25, 26, 27], [.own 61 (.pair (.int .i64) (.int .i64)), .cell (.sl 44 (.sl 61 (.pair (.int .i64) (.int .i64)))), .cell (.int .i64), .cell (.int .i64)], [], 36⟩
noncomputable def l37_11 (k : Nat) (g11 : (List (Int × Int)) → (List (List (Int × Int))) → Int → Int → Option (((List (Int × Int)) × Unit) × Unit)) (newslice : List (Int × Int)) (t25 : List (List (Int × Int))) (t26 : Int) (t27 : Int) : Option (((List (Int × Int)) × Unit) × Unit) :=
  (bif decide (t27 < t26) then
    ix t25 t27 <|
    ap newslice (rd t25 t27 []) 16 fun r1 =>
    g11 r1 t25 t26 (IntKind.i64.wrap (t27 + 1))
  else
    some ((newslice, ()), ()))
noncomputable def b37_11 (k : Nat) (g : ((Unit) × (List (Int × Int)) × (List (List (Int × Int))) × Int × Int × Unit) → Option (((List (Int × Int)) × Unit) × Unit)) (d : (Unit) × (List (Int × Int)) × (List (List (Int × Int))) × Int × Int × Unit) : Option (((List (Int × Int)) × Unit) × Unit) := l37_11 k (fun newslice t25 t26 t27 => g ((), newslice, t25, t26, t27, ())) d.2.1 d.2.2.1 d.2.2.2.1 d.2.2.2.2.1
noncomputable def L37_11 (k : Nat) (j : Nat) (newslice : List (Int × Int)) (t25 : List (List (Int × Int))) (t26 : Int) (t27 : Int) : Option (((List (Int × Int)) × Unit) × Unit) := iter (R := ((List (Int × Int)) × Unit) × Unit) c37_L11 (b37_11 k) j ((), newslice, t25, t26, t27, ())
theorem L37_11_s (k : Nat) (j : Nat) (newslice : List (Int × Int)) (t25 : List (List (Int × Int))) (t26 : Int) (t27 : Int) : L37_11 k (j + 1) newslice t25 t26 t27 = l37_11 k (L37_11 k j) newslice t25 t26 t27 := iter_succ _ _ _ _
noncomputable abbrev c37_L3 : Cut := ⟨[0, 3, 9, 10, 11], [.cell (.sl 44 (.sl 61 (.pair (.int .i64) (.int .i64)))), .cell (.int .i64), .cell (.sl 44 (.sl 61 (.pair (.int .i64) (.int .i64)))), .cell (.int .i64), .cell (.int .i64)], [], 36⟩
noncomputable def l37_3 (k : Nat) (g3 : (List (List (Int × Int))) → Int → (List (List (Int × Int))) → Int → Int → Option (((List (Int × Int)) × Unit) × Unit)) (slices1 : List (List (Int × Int))) (size : Int) (t9 : List (List (Int × Int))) (t10 : Int) (t11 : Int) : Option (((List (Int × Int)) × Unit) × Unit) :=
  (bif decide (t11 < t10) then
    ix t9 t11 <|
    (bif decide ((IntKind.i64.wrap (size + ((rd t9 t11 []).length : Int))) < 0) then
      none
    else
      g3 slices1 (IntKind.i64.wrap (size + ((rd t9 t11 []).length : Int))) t9 t10 (IntKind.i64.wrap (t11 + 1)))
  else
    (S53 k size).bind fun q0 =>
    L37_11 k k q0.1.1 slices1 (slices1.length : Int) 0)
noncomputable def b37_3 (k : Nat) (g : ((Unit) × (List (List (Int × Int))) × Int × (List (List (Int × Int))) × Int × Int × Unit) → Option (((List (Int × Int)) × Unit) × Unit)) (d : (Unit) × (List (List (Int × Int))) × Int × (List (List (Int × Int))) × Int × Int × Unit) : Option (((List (Int × Int)) × Unit) × Unit) := l37_3 k (fun slices1 size t9 t10 t11 => g ((), slices1, size, t9, t10, t11, ())) d.2.1 d.2.2.1 d.2.2.2.1 d.2.2.2.2.1 d.2.2.2.2.2.1
noncomputable def L37_3 (k : Nat) (j : Nat) (slices1 : List (List (Int × Int))) (size : Int) (t9 : List (List (Int × Int))) (t10 : Int) (t11 : Int) : Option (((List (Int × Int)) × Unit) × Unit) := iter (R := ((List (Int × Int)) × Unit) × Unit) c37_L3 (b37_3 k) j ((), slices1, size, t9, t10, t11, ())
theorem L37_3_s (k : Nat) (j : Nat) (slices1 : List (List (Int × Int))) (size : Int) (t9 : List (List (Int × Int))) (t10 : Int) (t11 : Int) : L37_3 k (j + 1) slices1 size t9 t10 t11 = l37_3 k (L37_3 k j) slices1 size t9 t10 t11 := iter_succ _ _ _ _
noncomputable def S37 (k : Nat) (slices : List (List (Int × Int))) : Option (((List (Int × Int)) × Unit) × Unit) :=
  L37_3 k k slices 0 slices (slices.length : Int) 0
noncomputable def E37 : Env := tab.env (lk [(53, F53)]) (hintL [])
theorem E37_ok : EnvOK Try.prog E37 := envOK_of tabOK _ _ (allFn_lk (l := [(53, F53)]) ⟨ok53, trivial⟩)
noncomputable def B37 (k : Nat) : Tbl (RD R37 × MD P37) := (.loop 11 c37_L11 (b37_11 k) (fun g => .nil) (.loop 3 c37_L3 (b37_3 k) (fun g => .nil) .nil))
noncomputable def F37 : Fn := ⟨P37, R37, fun k x => S37 k x.1⟩
theorem ok37 : FnOK Try.prog 37 F37 := evalF_ok (E := E37) (T := B37) E37_ok mix Try.func37 rfl (by kernel_rfl) (by kernel_rfl) (fun k => by kernel_rfl) (fun k x => by kernel_rfl)
/-! ### 23: 23 foliot/task.Costs -/
noncomputable abbrev P23 : List PT := [.val ⟨true, (.pair (.int .i64) (.pair (.int .i64) (.pair (.int .i64) (.pair (.sl 48 (.pair (.int .i64) (.pair (.int .i64) (.pair (.int .i64) (.int .i64))))) (.pair (.sl 48 (.pair (.int .i64) (.pair (.int .i64) (.pair (.int .i64) (.int .i64))))) (.sl 48 (.pair (.int .i64) (.pair (.int .i64) (.pair (.int .i64) (.int .i64)))))))))), false⟩]
noncomputable abbrev R23 : List RT := [.val ⟨false, (.int .i64), true⟩, .val ⟨false, (.int .i64), true⟩, .val ⟨false, (.sl 61 (.pair (.int .i64) (.int .i64))), true⟩]
noncomputable def S23 (k : Nat) (t : Int × Int × Int × (List (Int × Int × Int × Int)) × (List (Int × Int × Int × Int)) × List (Int × Int × Int × Int)) : Option ((Int × Int × (List (Int × Int)) × Unit) × Unit) :=
  (S35 k t).bind fun q0 =>
  (bif q0.1.1 != 0 then
    some ((0, 0, [], ()), ())
  else
    (S36 k t.2.2.2.1).bind fun q1 =>
    (S36 k t.2.2.2.2.1).bind fun q2 =>
    (bif q2.1.2.1 then
      (S37 k ([q1.1.1.2.2, q2.1.1.2.2] : List (List (Int × Int)))).bind fun q3 =>
      some ((q1.1.1.1, q2.1.1.1, q3.1.1, ()), ())
    else
      (S37 k ([q1.1.1.2.2, q2.1.1.2.2] : List (List (Int × Int)))).bind fun q4 =>
      some ((q1.1.1.1, q1.1.1.2.1, q4.1.1, ()), ())))
noncomputable def E23 : Env := tab.env (lk [(35, F35), (36, F36), (37, F37)]) (hintL [])
theorem E23_ok : EnvOK Try.prog E23 := envOK_of tabOK _ _ (allFn_lk (l := [(35, F35), (36, F36), (37, F37)]) ⟨ok35, ok36, ok37, trivial⟩)
noncomputable def B23 (k : Nat) : Tbl (RD R23 × MD P23) := .nil
noncomputable def F23 : Fn := ⟨P23, R23, fun k x => S23 k x.1⟩
theorem ok23 : FnOK Try.prog 23 F23 := evalF_ok (E := E23) (T := B23) E23_ok mix Try.func23 rfl (by kernel_rfl) (by kernel_rfl) (fun k => by kernel_rfl) (fun k x => by kernel_rfl)
/-! ### 77: 77 slices.Grow[[]foliot/api.Inst,foliot/api.Inst] -/
noncomputable abbrev P77 : List PT := [.pv (.nil), .val ⟨false, (.int .i64), false⟩]
noncomputable abbrev R77 : List RT := [.val ⟨false, (.sl 48 (.pair (.int .i64) (.pair (.int .i64) (.pair (.int .i64) (.int .i64))))), true⟩]
noncomputable def S77 (k : Nat) (n : Int) : Option (((List (Int × Int × Int × Int)) × Unit) × Unit) :=
  (bif decide (n < 0) then
    none
  else
    (bif decide ((IntKind.i64.wrap (n - 0)) > 0) then
      az ([] : List (Int × Int × Int × Int)) (IntKind.i64.wrap (n - 0)) 32 (0, 0, 0, 0) fun r0 =>
      sx r0 0 0 <|
      some ((r0.take 0, ()), ())
    else
      some (([], ()), ())))
noncomputable def E77 : Env := tab.env (lk []) (hintL [(25, 1)])
theorem E77_ok : EnvOK Try.prog E77 := envOK_of tabOK _ _ (fun f F h => by cases h)
noncomputable def B77 (k : Nat) : Tbl (RD R77 × MD P77) := .nil
noncomputable def F77 : Fn := ⟨P77, R77, fun k x => S77 k x.2.1⟩
theorem ok77 : FnOK Try.prog 77 F77 := evalF_ok (E := E77) (T := B77) E77_ok mix Try.func77 rfl (by kernel_rfl) (by kernel_rfl) (fun k => by kernel_rfl) (fun k x => by kernel_rfl)
/-! ### 60: 60 slices.Concat[[]foliot/api.Inst,foliot/api.Inst] -/
noncomputable abbrev P60 : List PT := [.val ⟨false, (.sl 34 (.sl 48 (.pair (.int .i64) (.pair (.int .i64) (.pair (.int .i64) (.int .i64)))))), false⟩]
noncomputable abbrev R60 : List RT := [.val ⟨false, (.sl 48 (.pair (.int .i64) (.pair (.int .i64) (.pair (.int .i64) (.int .i64))))), true⟩]
noncomputable abbrev c60_L11 : Cut := ⟨[6, 25, 26, 27], [.own 48 (.pair (.int .i64) (.pair (.int .i64) (.pair (.int .i64) (.int .i64)))), .cell (.sl 34 (.sl 48 (.pair (.int .i64) (.pair (.int .i64) (.pair (.int .i64) (.int .i64)))))), .cell (.int .i64), .cell (.int .i64)], [], 36⟩
noncomputable def l60_11 (k : Nat) (g11 : (List (Int × Int × Int × Int)) → (List (List (Int × Int × Int × Int))) → Int → Int → Option (((List (Int × Int × Int × Int)) × Unit) × Unit)) (newslice : List (Int × Int × Int × Int)) (t25 : List (List (Int × Int × Int × Int))) (t26 : Int) (t27 : Int) : Option (((List (Int × Int × Int × Int)) × Unit) × Unit) :=
  (bif decide (t27 < t26) then
    ix t25 t27 <|
    ap newslice (rd t25 t27 []) 32 fun r1 =>
    g11 r1 t25 t26 (IntKind.i64.wrap (t27 + 1))
  else
    some ((newslice, ()), ()))
noncomputable def b60_11 (k : Nat) (g : ((Unit) × (List (Int × Int × Int × Int)) × (List (List (Int × Int × Int × Int))) × Int × Int × Unit) → Option (((List (Int × Int × Int × Int)) × Unit) × Unit)) (d : (Unit) × (List (Int × Int × Int × Int)) × (List (List (Int × Int × Int × Int))) × Int × Int × Unit) : Option (((List (Int × Int × Int × Int)) × Unit) × Unit) := l60_11 k (fun newslice t25 t26 t27 => g ((), newslice, t25, t26, t27, ())) d.2.1 d.2.2.1 d.2.2.2.1 d.2.2.2.2.1
noncomputable def L60_11 (k : Nat) (j : Nat) (newslice : List (Int × Int × Int × Int)) (t25 : List (List (Int × Int × Int × Int))) (t26 : Int) (t27 : Int) : Option (((List (Int × Int × Int × Int)) × Unit) × Unit) := iter (R := ((List (Int × Int × Int × Int)) × Unit) × Unit) c60_L11 (b60_11 k) j ((), newslice, t25, t26, t27, ())
theorem L60_11_s (k : Nat) (j : Nat) (newslice : List (Int × Int × Int × Int)) (t25 : List (List (Int × Int × Int × Int))) (t26 : Int) (t27 : Int) : L60_11 k (j + 1) newslice t25 t26 t27 = l60_11 k (L60_11 k j) newslice t25 t26 t27 := iter_succ _ _ _ _
noncomputable abbrev c60_L3 : Cut := ⟨[0, 3, 9, 10, 11], [.cell (.sl 34 (.sl 48 (.pair (.int .i64) (.pair (.int .i64) (.pair (.int .i64) (.int .i64)))))), .cell (.int .i64), .cell (.sl 34 (.sl 48 (.pair (.int .i64) (.pair (.int .i64) (.pair (.int .i64) (.int .i64)))))), .cell (.int .i64), .cell (.int .i64)], [], 36⟩
noncomputable def l60_3 (k : Nat) (g3 : (List (List (Int × Int × Int × Int))) → Int → (List (List (Int × Int × Int × Int))) → Int → Int → Option (((List (Int × Int × Int × Int)) × Unit) × Unit)) (slices1 : List (List (Int × Int × Int × Int))) (size : Int) (t9 : List (List (Int × Int × Int × Int))) (t10 : Int) (t11 : Int) : Option (((List (Int × Int × Int × Int)) × Unit) × Unit) :=
  (bif decide (t11 < t10) then
    ix t9 t11 <|
    (bif decide ((IntKind.i64.wrap (size + ((rd t9 t11 []).length : Int))) < 0) then
      none
    else
      g3 slices1 (IntKind.i64.wrap (size + ((rd t9 t11 []).length : Int))) t9 t10 (IntKind.i64.wrap (t11 + 1)))
  else
    (S77 k size).bind fun q0 =>
    L60_11 k k q0.1.1 slices1 (slices1.length : Int) 0)
noncomputable def b60_3 (k : Nat) (g : ((Unit) × (List (List (Int × Int × Int × Int))) × Int × (List (List (Int × Int × Int × Int))) × Int × Int × Unit) → Option (((List (Int × Int × Int × Int)) × Unit) × Unit)) (d : (Unit) × (List (List (Int × Int × Int × Int))) × Int × (List (List (Int × Int × Int × Int))) × Int × Int × Unit) : Option (((List (Int × Int × Int × Int)) × Unit) × Unit) := l60_3 k (fun slices1 size t9 t10 t11 => g ((), slices1, size, t9, t10, t11, ())) d.2.1 d.2.2.1 d.2.2.2.1 d.2.2.2.2.1 d.2.2.2.2.2.1
noncomputable def L60_3 (k : Nat) (j : Nat) (slices1 : List (List (Int × Int × Int × Int))) (size : Int) (t9 : List (List (Int × Int × Int × Int))) (t10 : Int) (t11 : Int) : Option (((List (Int × Int × Int × Int)) × Unit) × Unit) := iter (R := ((List (Int × Int × Int × Int)) × Unit) × Unit) c60_L3 (b60_3 k) j ((), slices1, size, t9, t10, t11, ())
theorem L60_3_s (k : Nat) (j : Nat) (slices1 : List (List (Int × Int × Int × Int))) (size : Int) (t9 : List (List (Int × Int × Int × Int))) (t10 : Int) (t11 : Int) : L60_3 k (j + 1) slices1 size t9 t10 t11 = l60_3 k (L60_3 k j) slices1 size t9 t10 t11 := iter_succ _ _ _ _
noncomputable def S60 (k : Nat) (slices : List (List (Int × Int × Int × Int))) : Option (((List (Int × Int × Int × Int)) × Unit) × Unit) :=
  L60_3 k k slices 0 slices (slices.length : Int) 0
noncomputable def E60 : Env := tab.env (lk [(77, F77)]) (hintL [])
theorem E60_ok : EnvOK Try.prog E60 := envOK_of tabOK _ _ (allFn_lk (l := [(77, F77)]) ⟨ok77, trivial⟩)
noncomputable def B60 (k : Nat) : Tbl (RD R60 × MD P60) := (.loop 11 c60_L11 (b60_11 k) (fun g => .nil) (.loop 3 c60_L3 (b60_3 k) (fun g => .nil) .nil))
noncomputable def F60 : Fn := ⟨P60, R60, fun k x => S60 k x.1⟩
theorem ok60 : FnOK Try.prog 60 F60 := evalF_ok (E := E60) (T := B60) E60_ok mix Try.func60 rfl (by kernel_rfl) (by kernel_rfl) (fun k => by kernel_rfl) (fun k x => by kernel_rfl)
/-! ### 61: 61 foliot/block.Ceil$1$1 -/
noncomputable abbrev P61 : List PT := [.val ⟨true, (.pair (.int .i64) (.pair (.int .i64) (.pair (.int .i64) (.int .i64)))), false⟩, .pv (.ref (.int .i64))]
noncomputable abbrev R61 : List RT := [.val ⟨false, .bool, true⟩]
noncomputable def S61 (k : Nat) (i : Int × Int × Int × Int) (x1 : Int) : Option ((Bool × Unit) × Unit) :=
  (bif i.1 == 9 then
    some ((i.2.1 == x1, ()), ())
  else
    some ((false, ()), ()))
noncomputable def E61 : Env := tab.env (lk []) (hintL [])
theorem E61_ok : EnvOK Try.prog E61 := envOK_of tabOK _ _ (fun f F h => by cases h)
noncomputable def B61 (k : Nat) : Tbl (RD R61 × MD P61) := .nil
noncomputable def F61 : Fn := ⟨P61, R61, fun k x => S61 k x.1 x.2.1⟩
theorem ok61 : FnOK Try.prog 61 F61 := evalF_ok (E := E61) (T := B61) E61_ok mix Try.func61 rfl (by kernel_rfl) (by kernel_rfl) (fun k => by kernel_rfl) (fun k x => by kernel_rfl)
/-! ### 69c: 69 slices.IndexFunc[[]foliot/api.Inst,foliot/api.Inst] -/
noncomputable abbrev P69c : List PT := [.val ⟨false, (.sl 48 (.pair (.int .i64) (.pair (.int .i64) (.pair (.int .i64) (.int .i64))))), false⟩, .pv (.clo 61 [.ref (.int .i64)])]
noncomputable abbrev R69c : List RT := [.val ⟨false, (.int .i64), true⟩]
noncomputable abbrev c69c_L2 : Cut := ⟨[0, 1, 7, 8], [.cell (.sl 48 (.pair (.int .i64) (.pair (.int .i64) (.pair (.int .i64) (.int .i64))))), .clo 61 [.ref (.int .i64)], .cell (.int .i64), .cell (.int .i64)], [], 19⟩
noncomputable def l69c_2 (k : Nat) (g2 : (List (Int × Int × Int × Int)) → Int → Int → Int → Option ((Int × Unit) × Unit)) (s1 : List (Int × Int × Int × Int)) (f1 : Int) (t7 : Int) (t8 : Int) : Option ((Int × Unit) × Unit) :=
  (bif decide (t8 < t7) then
    ix s1 t8 <|
    (S61 k (rd s1 t8 (0, 0, 0, 0)) f1).bind fun q0 =>
    (bif q0.1.1 then
      some ((t8, ()), ())
    else
      g2 s1 f1 t7 (IntKind.i64.wrap (t8 + 1)))
  else
    some (((-1), ()), ()))
noncomputable def b69c_2 (k : Nat) (g : ((Unit) × (List (Int × Int × Int × Int)) × (Int × Unit) × Int × Int × Unit) → Option ((Int × Unit) × Unit)) (d : (Unit) × (List (Int × Int × Int × Int)) × (Int × Unit) × Int × Int × Unit) : Option ((Int × Unit) × Unit) := l69c_2 k (fun s1 f1 t7 t8 => g ((), s1, (f1, ()), t7, t8, ())) d.2.1 d.2.2.1.1 d.2.2.2.1 d.2.2.2.2.1
noncomputable def L69c_2 (k : Nat) (j : Nat) (s1 : List (Int × Int × Int × Int)) (f1 : Int) (t7 : Int) (t8 : Int) : Option ((Int × Unit) × Unit) := iter (R := (Int × Unit) × Unit) c69c_L2 (b69c_2 k) j ((), s1, (f1, ()), t7, t8, ())
theorem L69c_2_s (k : Nat) (j : Nat) (s1 : List (Int × Int × Int × Int)) (f1 : Int) (t7 : Int) (t8 : Int) : L69c_2 k (j + 1) s1 f1 t7 t8 = l69c_2 k (L69c_2 k j) s1 f1 t7 t8 := iter_succ _ _ _ _
noncomputable def S69c (k : Nat) (s : List (Int × Int × Int × Int)) (f : Int) : Option ((Int × Unit) × Unit) :=
  L69c_2 k k s f (s.length : Int) 0
noncomputable def E69c : Env := tab.env (lk [(61, F61)]) (hintL [])
theorem E69c_ok : EnvOK Try.prog E69c := envOK_of tabOK _ _ (allFn_lk (l := [(61, F61)]) ⟨ok61, trivial⟩)
noncomputable def B69c (k : Nat) : Tbl (RD R69c × MD P69c) := (.loop 2 c69c_L2 (b69c_2 k) (fun g => .nil) .nil)
noncomputable def F69c : Fn := ⟨P69c, R69c, fun k x => S69c k x.1 x.2.1.1⟩
theorem ok69c : FnOK Try.prog 69 F69c := evalF_ok (E := E69c) (T := B69c) E69c_ok mix Try.func69 rfl (by kernel_rfl) (by kernel_rfl) (fun k => by kernel_rfl) (fun k x => by kernel_rfl)
/-! ### 59b: 59 slices.ContainsFunc[[]foliot/api.Inst,foliot/api.Inst] -/
noncomputable abbrev P59b : List PT := [.val ⟨false, (.sl 48 (.pair (.int .i64) (.pair (.int .i64) (.pair (.int .i64) (.int .i64))))), false⟩, .pv (.clo 61 [.ref (.int .i64)])]
noncomputable abbrev R59b : List RT := [.val ⟨false, .bool, true⟩]
noncomputable def S59b (k : Nat) (s : List (Int × Int × Int × Int)) (f : Int) : Option ((Bool × Unit) × Unit) :=
  (S69c k s f).bind fun q0 =>
  some ((decide (q0.1.1 ≥ 0), ()), ())
noncomputable def E59b : Env := tab.env (lk [(69, F69c)]) (hintL [])
theorem E59b_ok : EnvOK Try.prog E59b := envOK_of tabOK _ _ (allFn_lk (l := [(69, F69c)]) ⟨ok69c, trivial⟩)
noncomputable def B59b (k : Nat) : Tbl (RD R59b × MD P59b) := .nil
noncomputable def F59b : Fn := ⟨P59b, R59b, fun k x => S59b k x.1 x.2.1.1⟩
theorem ok59b : FnOK Try.prog 59 F59b := evalF_ok (E := E59b) (T := B59b) E59b_ok mix Try.func59 rfl (by kernel_rfl) (by kernel_rfl) (fun k => by kernel_rfl) (fun k x => by kernel_rfl)
/-! ### 58: 58 foliot/block.Ceil$1 -/
noncomputable abbrev P58 : List PT := [.val ⟨true, (.pair (.int .i64) (.pair (.int .i64) (.pair (.int .i64) (.pair (.sl 48 (.pair (.int .i64) (.pair (.int .i64) (.pair (.int .i64) (.int .i64))))) (.pair (.sl 48 (.pair (.int .i64) (.pair (.int .i64) (.pair (.int .i64) (.int .i64))))) (.sl 48 (.pair (.int .i64) (.pair (.int .i64) (.pair (.int .i64) (.int .i64)))))))))), false⟩, .pv (.ref (.int .i64))]
noncomputable abbrev R58 : List RT := [.val ⟨false, .bool, true⟩]
noncomputable def S58 (k : Nat) (t : Int × Int × Int × (List (Int × Int × Int × Int)) × (List (Int × Int × Int × Int)) × List (Int × Int × Int × Int)) (x1 : Int) : Option ((Bool × Unit) × Unit) :=
  (S60 k ([t.2.2.2.1, t.2.2.2.2.1] : List (List (Int × Int × Int × Int)))).bind fun q0 =>
  (S59b k q0.1.1 x1).bind fun q1 =>
  some ((q1.1.1, ()), ())
noncomputable def E58 : Env := tab.env (lk [(59, F59b), (60, F60)]) (hintL [])
theorem E58_ok : EnvOK Try.prog E58 := envOK_of tabOK _ _ (allFn_lk (l := [(59, F59b), (60, F60)]) ⟨ok59b, ok60, trivial⟩)
noncomputable def B58 (k : Nat) : Tbl (RD R58 × MD P58) := .nil
noncomputable def F58 : Fn := ⟨P58, R58, fun k x => S58 k x.1 x.2.1⟩
theorem ok58 : FnOK Try.prog 58 F58 := evalF_ok (E := E58) (T := B58) E58_ok mix Try.func58 rfl (by kernel_rfl) (by kernel_rfl) (fun k => by kernel_rfl) (fun k x => by kernel_rfl)
/-! ### 57: 57 slices.IndexFunc[[]foliot/api.Task,foliot/api.Task] -/
noncomputable abbrev P57 : List PT := [.val ⟨false, (.sl 36 (.pair (.int .i64) (.pair (.int .i64) (.pair (.int .i64) (.pair (.sl 48 (.pair (.int .i64) (.pair (.int .i64) (.pair (.int .i64) (.int .i64))))) (.pair (.sl 48 (.pair (.int .i64) (.pair (.int .i64) (.pair (.int .i64) (.int .i64))))) (.sl 48 (.pair (.int .i64) (.pair (.int .i64) (.pair (.int .i64) (.int .i64))))))))))), false⟩, .pv (.clo 58 [.ref (.int .i64)])]
noncomputable abbrev R57 : List RT := [.val ⟨false, (.int .i64), true⟩]
noncomputable abbrev c57_L2 : Cut := ⟨[0, 1, 7, 8], [.cell (.sl 36 (.pair (.int .i64) (.pair (.int .i64) (.pair (.int .i64) (.pair (.sl 48 (.pair (.int .i64) (.pair (.int .i64) (.pair (.int .i64) (.int .i64))))) (.pair (.sl 48 (.pair (.int .i64) (.pair (.int .i64) (.pair (.int .i64) (.int .i64))))) (.sl 48 (.pair (.int .i64) (.pair (.int .i64) (.pair (.int .i64) (.int .i64))))))))))), .clo 58 [.ref (.int .i64)], .cell (.int .i64), .cell (.int .i64)], [], 19⟩
noncomputable def l57_2 (k : Nat) (g2 : (List (Int × Int × Int × (List (Int × Int × Int × Int)) × (List (Int × Int × Int × Int)) × List (Int × Int × Int × Int))) → Int → Int → Int → Option ((Int × Unit) × Unit)) (s1 : List (Int × Int × Int × (List (Int × Int × Int × Int)) × (List (Int × Int × Int × Int)) × List (Int × Int × Int × Int))) (f1 : Int) (t7 : Int) (t8 : Int) : Option ((Int × Unit) × Unit) :=
  (bif decide (t8 < t7) then
    ix s1 t8 <|
    (S58 k (rd s1 t8 (0, 0, 0, [], [], [])) f1).bind fun q0 =>
    (bif q0.1.1 then
      some ((t8, ()), ())
    else
      g2 s1 f1 t7 (IntKind.i64.wrap (t8 + 1)))
  else
    some (((-1), ()), ()))
noncomputable def b57_2 (k : Nat) (g : ((Unit) × (List (Int × Int × Int × (List (Int × Int × Int × Int)) × (List (Int × Int × Int × Int)) × List (Int × Int × Int × Int))) × (Int × Unit) × Int × Int × Unit) → Option ((Int × Unit) × Unit)) (d : (Unit) × (List (Int × Int × Int × (List (Int × Int × Int × Int)) × (List (Int × Int × Int × Int)) × List (Int × Int × Int × Int))) × (Int × Unit) × Int × Int × Unit) : Option ((Int × Unit) × Unit) := l57_2 k (fun s1 f1 t7 t8 => g ((), s1, (f1, ()), t7, t8, ())) d.2.1 d.2.2.1.1 d.2.2.2.1 d.2.2.2.2.1
noncomputable def L57_2 (k : Nat) (j : Nat) (s1 : List (Int × Int × Int × (List (Int × Int × Int × Int)) × (List (Int × Int × Int × Int)) × List (Int × Int × Int × Int))) (f1 : Int) (t7 : Int) (t8 : Int) : Option ((Int × Unit) × Unit) := iter (R := (Int × Unit) × Unit) c57_L2 (b57_2 k) j ((), s1, (f1, ()), t7, t8, ())
theorem L57_2_s (k : Nat) (j : Nat) (s1 : List (Int × Int × Int × (List (Int × Int × Int × Int)) × (List (Int × Int × Int × Int)) × List (Int × Int × Int × Int))) (f1 : Int) (t7 : Int) (t8 : Int) : L57_2 k (j + 1) s1 f1 t7 t8 = l57_2 k (L57_2 k j) s1 f1 t7 t8 := iter_succ _ _ _ _
noncomputable def S57 (k : Nat) (s : List (Int × Int × Int × (List (Int × Int × Int × Int)) × (List (Int × Int × Int × Int)) × List (Int × Int × Int × Int))) (f : Int) : Option ((Int × Unit) × Unit) :=
  L57_2 k k s f (s.length : Int) 0
noncomputable def E57 : Env := tab.env (lk [(58, F58)]) (hintL [])
theorem E57_ok : EnvOK Try.prog E57 := envOK_of tabOK _ _ (allFn_lk (l := [(58, F58)]) ⟨ok58, trivial⟩)
noncomputable def B57 (k : Nat) : Tbl (RD R57 × MD P57) := (.loop 2 c57_L2 (b57_2 k) (fun g => .nil) .nil)
noncomputable def F57 : Fn := ⟨P57, R57, fun k x => S57 k x.1 x.2.1.1⟩
theorem ok57 : FnOK Try.prog 57 F57 := evalF_ok (E := E57) (T := B57) E57_ok mix Try.func57 rfl (by kernel_rfl) (by kernel_rfl) (fun k => by kernel_rfl) (fun k x => by kernel_rfl)
/-! ### 40: 40 foliot/block.Ceil -/
noncomputable abbrev P40 : List PT := [.val ⟨false, (.sl 36 (.pair (.int .i64) (.pair (.int .i64) (.pair (.int .i64) (.pair (.sl 48 (.pair (.int .i64) (.pair (.int .i64) (.pair (.int .i64) (.int .i64))))) (.pair (.sl 48 (.pair (.int .i64) (.pair (.int .i64) (.pair (.int .i64) (.int .i64))))) (.sl 48 (.pair (.int .i64) (.pair (.int .i64) (.pair (.int .i64) (.int .i64))))))))))), false⟩, .val ⟨false, (.int .i64), false⟩]
noncomputable abbrev R40 : List RT := [.val ⟨false, (.int .i64), true⟩]
noncomputable def S40 (k : Nat) (l_ : List (Int × Int × Int × (List (Int × Int × Int × Int)) × (List (Int × Int × Int × Int)) × List (Int × Int × Int × Int))) (s : Int) : Option ((Int × Unit) × Unit) :=
  (S57 k l_ s).bind fun q0 =>
  (bif decide (q0.1.1 < 0) then
    some ((8, ()), ())
  else
    some ((q0.1.1, ()), ()))
noncomputable def E40 : Env := tab.env (lk [(57, F57)]) (hintL [])
theorem E40_ok : EnvOK Try.prog E40 := envOK_of tabOK _ _ (allFn_lk (l := [(57, F57)]) ⟨ok57, trivial⟩)
noncomputable def B40 (k : Nat) : Tbl (RD R40 × MD P40) := .nil
noncomputable def F40 : Fn := ⟨P40, R40, fun k x => S40 k x.1 x.2.1⟩
theorem ok40 : FnOK Try.prog 40 F40 := evalF_ok (E := E40) (T := B40) E40_ok mix Try.func40 rfl (by kernel_rfl) (by kernel_rfl) (fun k => by kernel_rfl) (fun k x => by kernel_rfl)
/-! ### 25: 25 foliot/block.By -/
noncomputable abbrev P25 : List PT := [.val ⟨false, (.sl 36 (.pair (.int .i64) (.pair (.int .i64) (.pair (.int .i64) (.pair (.sl 48 (.pair (.int .i64) (.pair (.int .i64) (.pair (.int .i64) (.int .i64))))) (.pair (.sl 48 (.pair (.int .i64) (.pair (.int .i64) (.pair (.int .i64) (.int .i64))))) (.sl 48 (.pair (.int .i64) (.pair (.int .i64) (.pair (.int .i64) (.int .i64))))))))))), false⟩, .val ⟨false, (.int .i64), false⟩]
noncomputable abbrev R25 : List RT := [.val ⟨false, (.int .i64), true⟩]
noncomputable abbrev c25_J13 : Cut := ⟨[0, 1, 4, 5, 12, 16, 17, 18, 32, 33, 34], [.cell (.sl 36 (.pair (.int .i64) (.pair (.int .i64) (.pair (.int .i64) (.pair (.sl 48 (.pair (.int .i64) (.pair (.int .i64) (.pair (.int .i64) (.int .i64))))) (.pair (.sl 48 (.pair (.int .i64) (.pair (.int .i64) (.pair (.int .i64) (.int .i64))))) (.sl 48 (.pair (.int .i64) (.pair (.int .i64) (.pair (.int .i64) (.int .i64))))))))))), .cell (.int .i64), .cell (.int .i64), .mp 71 true (.int .i64) false (.int .i64), .box 61 [.cell (.int .i64), .cell (.int .i64)], .cell (.sl 36 (.pair (.int .i64) (.pair (.int .i64) (.pair (.int .i64) (.pair (.sl 48 (.pair (.int .i64) (.pair (.int .i64) (.pair (.int .i64) (.int .i64))))) (.pair (.sl 48 (.pair (.int .i64) (.pair (.int .i64) (.pair (.int .i64) (.int .i64))))) (.sl 48 (.pair (.int .i64) (.pair (.int .i64) (.pair (.int .i64) (.int .i64))))))))))), .cell (.int .i64), .cell (.int .i64), .own 61 (.pair (.int .i64) (.int .i64)), .cell (.int .i64), .cell (.int .i64)], [], 70⟩
noncomputable def j25_13 (k : Nat) (g3 : (List (Int × Int × Int × (List (Int × Int × Int × Int)) × (List (Int × Int × Int × Int)) × List (Int × Int × Int × Int))) → Int → Int → (List (Int × Int)) → (List (Int × Int × Int × (List (Int × Int × Int × Int)) × (List (Int × Int × Int × Int)) × List (Int × Int × Int × Int))) → Int → Int → Option ((Int × Unit) × Unit)) (g8 : (List (Int × Int × Int × (List (Int × Int × Int × Int)) × (List (Int × Int × Int × Int)) × List (Int × Int × Int × Int))) → Int → Int → (List (Int × Int)) → (List (Int × Int × Int × (List (Int × Int × Int × Int)) × (List (Int × Int × Int × Int)) × List (Int × Int × Int × Int))) → Int → Int → (List (Int × Int)) → Int → Int → Option ((Int × Unit) × Unit)) (l_3 : List (Int × Int × Int × (List (Int × Int × Int × Int)) × (List (Int × Int × Int × Int)) × List (Int × Int × Int × Int))) (i3 : Int) (most2 : Int) (ceils2 : List (Int × Int)) (x : Int) (x1 : Int) (t16_2 : List (Int × Int × Int × (List (Int × Int × Int × Int)) × (List (Int × Int × Int × Int)) × List (Int × Int × Int × Int))) (t17_2 : Int) (t18_2 : Int) (t32_1 : List (Int × Int)) (t33_1 : Int) (t34_1 : Int) : Option ((Int × Unit) × Unit) :=
  (bif decide ((mget (.int .i64) (.int .i64) x ceils2 0) ≤ i3) then
    g8 l_3 i3 (mx most2 x1) ceils2 t16_2 t17_2 t18_2 t32_1 t33_1 (IntKind.i64.wrap (t34_1 + 1))
  else
    g8 l_3 i3 most2 ceils2 t16_2 t17_2 t18_2 t32_1 t33_1 (IntKind.i64.wrap (t34_1 + 1)))
noncomputable abbrev c25_L8 : Cut := ⟨[0, 1, 4, 5, 16, 17, 18, 32, 33, 34], [.cell (.sl 36 (.pair (.int .i64) (.pair (.int .i64) (.pair (.int .i64) (.pair (.sl 48 (.pair (.int .i64) (.pair (.int .i64) (.pair (.int .i64) (.int .i64))))) (.pair (.sl 48 (.pair (.int .i64) (.pair (.int .i64) (.pair (.int .i64) (.int .i64))))) (.sl 48 (.pair (.int .i64) (.pair (.int .i64) (.pair (.int .i64) (.int .i64))))))))))), .cell (.int .i64), .cell (.int .i64), .mp 71 true (.int .i64) false (.int .i64), .cell (.sl 36 (.pair (.int .i64) (.pair (.int .i64) (.pair (.int .i64) (.pair (.sl 48 (.pair (.int .i64) (.pair (.int .i64) (.pair (.int .i64) (.int .i64))))) (.pair (.sl 48 (.pair (.int .i64) (.pair (.int .i64) (.pair (.int .i64) (.int .i64))))) (.sl 48 (.pair (.int .i64) (.pair (.int .i64) (.pair (.int .i64) (.int .i64))))))))))), .cell (.int .i64), .cell (.int .i64), .own 61 (.pair (.int .i64) (.int .i64)), .cell (.int .i64), .cell (.int .i64)], [], 70⟩
noncomputable def l25_8 (k : Nat) (g3 : (List (Int × Int × Int × (List (Int × Int × Int × Int)) × (List (Int × Int × Int × Int)) × List (Int × Int × Int × Int))) → Int → Int → (List (Int × Int)) → (List (Int × Int × Int × (List (Int × Int × Int × Int)) × (List (Int × Int × Int × Int)) × List (Int × Int × Int × Int))) → Int → Int → Option ((Int × Unit) × Unit)) (g8 : (List (Int × Int × Int × (List (Int × Int × Int × Int)) × (List (Int × Int × Int × Int)) × List (Int × Int × Int × Int))) → Int → Int → (List (Int × Int)) → (List (Int × Int × Int × (List (Int × Int × Int × Int)) × (List (Int × Int × Int × Int)) × List (Int × Int × Int × Int))) → Int → Int → (List (Int × Int)) → Int → Int → Option ((Int × Unit) × Unit)) (l_2 : List (Int × Int × Int × (List (Int × Int × Int × Int)) × (List (Int × Int × Int × Int)) × List (Int × Int × Int × Int))) (i2 : Int) (most1 : Int) (ceils1 : List (Int × Int)) (t16_1 : List (Int × Int × Int × (List (Int × Int × Int × Int)) × (List (Int × Int × Int × Int)) × List (Int × Int × Int × Int))) (t17_1 : Int) (t18_1 : Int) (t32 : List (Int × Int)) (t33 : Int) (t34 : Int) : Option ((Int × Unit) × Unit) :=
  (bif decide (t34 < t33) then
    ix t32 t34 <|
    (bif !(mhas (.int .i64) (.int .i64) (rd t32 t34 (0, 0)).1 ceils1) then
      (S40 k l_2 (rd t32 t34 (0, 0)).1).bind fun q1 =>
      j25_13 k g3 g8 l_2 i2 most1 (updD (.int .i64) (.int .i64) (rd t32 t34 (0, 0)).1 q1.1.1 ceils1) (rd t32 t34 (0, 0)).1 (rd t32 t34 (0, 0)).2 t16_1 t17_1 t18_1 t32 t33 t34
    else
      j25_13 k g3 g8 l_2 i2 most1 ceils1 (rd t32 t34 (0, 0)).1 (rd t32 t34 (0, 0)).2 t16_1 t17_1 t18_1 t32 t33 t34)
  else
    g3 l_2 i2 most1 ceils1 t16_1 t17_1 (IntKind.i64.wrap (t18_1 + 1)))
noncomputable def b25_8 (k : Nat) (g3 : (List (Int × Int × Int × (List (Int × Int × Int × Int)) × (List (Int × Int × Int × Int)) × List (Int × Int × Int × Int))) → Int → Int → (List (Int × Int)) → (List (Int × Int × Int × (List (Int × Int × Int × Int)) × (List (Int × Int × Int × Int)) × List (Int × Int × Int × Int))) → Int → Int → Option ((Int × Unit) × Unit)) (g : ((Unit) × (List (Int × Int × Int × (List (Int × Int × Int × Int)) × (List (Int × Int × Int × Int)) × List (Int × Int × Int × Int))) × Int × Int × (List (Int × Int)) × (List (Int × Int × Int × (List (Int × Int × Int × Int)) × (List (Int × Int × Int × Int)) × List (Int × Int × Int × Int))) × Int × Int × (List (Int × Int)) × Int × Int × Unit) → Option ((Int × Unit) × Unit)) (d : (Unit) × (List (Int × Int × Int × (List (Int × Int × Int × Int)) × (List (Int × Int × Int × Int)) × List (Int × Int × Int × Int))) × Int × Int × (List (Int × Int)) × (List (Int × Int × Int × (List (Int × Int × Int × Int)) × (List (Int × Int × Int × Int)) × List (Int × Int × Int × Int))) × Int × Int × (List (Int × Int)) × Int × Int × Unit) : Option ((Int × Unit) × Unit) := l25_8 k g3 (fun l_2 i2 most1 ceils1 t16_1 t17_1 t18_1 t32 t33 t34 => g ((), l_2, i2, most1, ceils1, t16_1, t17_1, t18_1, t32, t33, t34, ())) d.2.1 d.2.2.1 d.2.2.2.1 d.2.2.2.2.1 d.2.2.2.2.2.1 d.2.2.2.2.2.2.1 d.2.2.2.2.2.2.2.1 d.2.2.2.2.2.2.2.2.1 d.2.2.2.2.2.2.2.2.2.1 d.2.2.2.2.2.2.2.2.2.2.1
noncomputable def L25_8 (k : Nat) (g3 : (List (Int × Int × Int × (List (Int × Int × Int × Int)) × (List (Int × Int × Int × Int)) × List (Int × Int × Int × Int))) → Int → Int → (List (Int × Int)) → (List (Int × Int × Int × (List (Int × Int × Int × Int)) × (List (Int × Int × Int × Int)) × List (Int × Int × Int × Int))) → Int → Int → Option ((Int × Unit) × Unit)) (j : Nat) (l_2 : List (Int × Int × Int × (List (Int × Int × Int × Int)) × (List (Int × Int × Int × Int)) × List (Int × Int × Int × Int))) (i2 : Int) (most1 : Int) (ceils1 : List (Int × Int)) (t16_1 : List (Int × Int × Int × (List (Int × Int × Int × Int)) × (List (Int × Int × Int × Int)) × List (Int × Int × Int × Int))) (t17_1 : Int) (t18_1 : Int) (t32 : List (Int × Int)) (t33 : Int) (t34 : Int) : Option ((Int × Unit) × Unit) := iter (R := (Int × Unit) × Unit) c25_L8 (b25_8 k g3) j ((), l_2, i2, most1, ceils1, t16_1, t17_1, t18_1, t32, t33, t34, ())
theorem L25_8_s (k : Nat) (g3 : (List (Int × Int × Int × (List (Int × Int × Int × Int)) × (List (Int × Int × Int × Int)) × List (Int × Int × Int × Int))) → Int → Int → (List (Int × Int)) → (List (Int × Int × Int × (List (Int × Int × Int × Int)) × (List (Int × Int × Int × Int)) × List (Int × Int × Int × Int))) → Int → Int → Option ((Int × Unit) × Unit)) (j : Nat) (l_2 : List (Int × Int × Int × (List (Int × Int × Int × Int)) × (List (Int × Int × Int × Int)) × List (Int × Int × Int × Int))) (i2 : Int) (most1 : Int) (ceils1 : List (Int × Int)) (t16_1 : List (Int × Int × Int × (List (Int × Int × Int × Int)) × (List (Int × Int × Int × Int)) × List (Int × Int × Int × Int))) (t17_1 : Int) (t18_1 : Int) (t32 : List (Int × Int)) (t33 : Int) (t34 : Int) : L25_8 k g3 (j + 1) l_2 i2 most1 ceils1 t16_1 t17_1 t18_1 t32 t33 t34 = l25_8 k g3 (L25_8 k g3 j) l_2 i2 most1 ceils1 t16_1 t17_1 t18_1 t32 t33 t34 := iter_succ _ _ _ _
noncomputable abbrev c25_L3 : Cut := ⟨[0, 1, 4, 5, 16, 17, 18], [.cell (.sl 36 (.pair (.int .i64) (.pair (.int .i64) (.pair (.int .i64) (.pair (.sl 48 (.pair (.int .i64) (.pair (.int .i64) (.pair (.int .i64) (.int .i64))))) (.pair (.sl 48 (.pair (.int .i64) (.pair (.int .i64) (.pair (.int .i64) (.int .i64))))) (.sl 48 (.pair (.int .i64) (.pair (.int .i64) (.pair (.int .i64) (.int .i64))))))))))), .cell (.int .i64), .cell (.int .i64), .mp 71 true (.int .i64) false (.int .i64), .cell (.sl 36 (.pair (.int .i64) (.pair (.int .i64) (.pair (.int .i64) (.pair (.sl 48 (.pair (.int .i64) (.pair (.int .i64) (.pair (.int .i64) (.int .i64))))) (.pair (.sl 48 (.pair (.int .i64) (.pair (.int .i64) (.pair (.int .i64) (.int .i64))))) (.sl 48 (.pair (.int .i64) (.pair (.int .i64) (.pair (.int .i64) (.int .i64))))))))))), .cell (.int .i64), .cell (.int .i64)], [], 70⟩
noncomputable def l25_3 (k : Nat) (g3 : (List (Int × Int × Int × (List (Int × Int × Int × Int)) × (List (Int × Int × Int × Int)) × List (Int × Int × Int × Int))) → Int → Int → (List (Int × Int)) → (List (Int × Int × Int × (List (Int × Int × Int × Int)) × (List (Int × Int × Int × Int)) × List (Int × Int × Int × Int))) → Int → Int → Option ((Int × Unit) × Unit)) (l_1 : List (Int × Int × Int × (List (Int × Int × Int × Int)) × (List (Int × Int × Int × Int)) × List (Int × Int × Int × Int))) (i1 : Int) (most : Int) (ceils : List (Int × Int)) (t16 : List (Int × Int × Int × (List (Int × Int × Int × Int)) × (List (Int × Int × Int × Int)) × List (Int × Int × Int × Int))) (t17 : Int) (t18 : Int) : Option ((Int × Unit) × Unit) :=
  (bif decide (t18 < t17) then
    ix t16 t18 <|
    (bif t18 == i1 then
      g3 l_1 i1 most ceils t16 t17 (IntKind.i64.wrap (t18 + 1))
    else
      (S23 k (rd t16 t18 (0, 0, 0, [], [], []))).bind fun q0 =>
      L25_8 k g3 k l_1 i1 most ceils t16 t17 t18 q0.1.2.2.1 (q0.1.2.2.1.length : Int) 0)
  else
    some ((most, ()), ()))
noncomputable def b25_3 (k : Nat) (g : ((Unit) × (List (Int × Int × Int × (List (Int × Int × Int × Int)) × (List (Int × Int × Int × Int)) × List (Int × Int × Int × Int))) × Int × Int × (List (Int × Int)) × (List (Int × Int × Int × (List (Int × Int × Int × Int)) × (List (Int × Int × Int × Int)) × List (Int × Int × Int × Int))) × Int × Int × Unit) → Option ((Int × Unit) × Unit)) (d : (Unit) × (List (Int × Int × Int × (List (Int × Int × Int × Int)) × (List (Int × Int × Int × Int)) × List (Int × Int × Int × Int))) × Int × Int × (List (Int × Int)) × (List (Int × Int × Int × (List (Int × Int × Int × Int)) × (List (Int × Int × Int × Int)) × List (Int × Int × Int × Int))) × Int × Int × Unit) : Option ((Int × Unit) × Unit) := l25_3 k (fun l_1 i1 most ceils t16 t17 t18 => g ((), l_1, i1, most, ceils, t16, t17, t18, ())) d.2.1 d.2.2.1 d.2.2.2.1 d.2.2.2.2.1 d.2.2.2.2.2.1 d.2.2.2.2.2.2.1 d.2.2.2.2.2.2.2.1
noncomputable def L25_3 (k : Nat) (j : Nat) (l_1 : List (Int × Int × Int × (List (Int × Int × Int × Int)) × (List (Int × Int × Int × Int)) × List (Int × Int × Int × Int))) (i1 : Int) (most : Int) (ceils : List (Int × Int)) (t16 : List (Int × Int × Int × (List (Int × Int × Int × Int)) × (List (Int × Int × Int × Int)) × List (Int × Int × Int × Int))) (t17 : Int) (t18 : Int) : Option ((Int × Unit) × Unit) := iter (R := (Int × Unit) × Unit) c25_L3 (b25_3 k) j ((), l_1, i1, most, ceils, t16, t17, t18, ())
theorem L25_3_s (k : Nat) (j : Nat) (l_1 : List (Int × Int × Int × (List (Int × Int × Int × Int)) × (List (Int × Int × Int × Int)) × List (Int × Int × Int × Int))) (i1 : Int) (most : Int) (ceils : List (Int × Int)) (t16 : List (Int × Int × Int × (List (Int × Int × Int × Int)) × (List (Int × Int × Int × Int)) × List (Int × Int × Int × Int))) (t17 : Int) (t18 : Int) : L25_3 k (j + 1) l_1 i1 most ceils t16 t17 t18 = l25_3 k (L25_3 k j) l_1 i1 most ceils t16 t17 t18 := iter_succ _ _ _ _
noncomputable def S25 (k : Nat) (l_ : List (Int × Int × Int × (List (Int × Int × Int × Int)) × (List (Int × Int × Int × Int)) × List (Int × Int × Int × Int))) (i : Int) : Option ((Int × Unit) × Unit) :=
  L25_3 k k l_ i 0 ([] : List (Int × Int)) l_ (l_.length : Int) 0
noncomputable def E25 : Env := tab.env (lk [(23, F23), (40, F40)]) (hintL [])
theorem E25_ok : EnvOK Try.prog E25 := envOK_of tabOK _ _ (allFn_lk (l := [(23, F23), (40, F40)]) ⟨ok23, ok40, trivial⟩)
noncomputable def B25 (k : Nat) : Tbl (RD R25 × MD P25) := (.loop 3 c25_L3 (b25_3 k) (fun g => (fun (g3 : (List (Int × Int × Int × (List (Int × Int × Int × Int)) × (List (Int × Int × Int × Int)) × List (Int × Int × Int × Int))) → Int → Int → (List (Int × Int)) → (List (Int × Int × Int × (List (Int × Int × Int × Int)) × (List (Int × Int × Int × Int)) × List (Int × Int × Int × Int))) → Int → Int → Option ((Int × Unit) × Unit)) => (.loop 8 c25_L8 (b25_8 k g3) (fun g => (fun (g8 : (List (Int × Int × Int × (List (Int × Int × Int × Int)) × (List (Int × Int × Int × Int)) × List (Int × Int × Int × Int))) → Int → Int → (List (Int × Int)) → (List (Int × Int × Int × (List (Int × Int × Int × Int)) × (List (Int × Int × Int × Int)) × List (Int × Int × Int × Int))) → Int → Int → (List (Int × Int)) → Int → Int → Option ((Int × Unit) × Unit)) => (.join 13 c25_J13 (fun d => j25_13 k g3 g8 d.2.1 d.2.2.1 d.2.2.2.1 d.2.2.2.2.1 d.2.2.2.2.2.1.1 d.2.2.2.2.2.1.2.1 d.2.2.2.2.2.2.1 d.2.2.2.2.2.2.2.1 d.2.2.2.2.2.2.2.2.1 d.2.2.2.2.2.2.2.2.2.1 d.2.2.2.2.2.2.2.2.2.2.1 d.2.2.2.2.2.2.2.2.2.2.2.1) .nil)) (fun l_2 i2 most1 ceils1 t16_1 t17_1 t18_1 t32 t33 t34 => g ((), l_2, i2, most1, ceils1, t16_1, t17_1, t18_1, t32, t33, t34, ()))) .nil)) (fun l_1 i1 most ceils t16 t17 t18 => g ((), l_1, i1, most, ceils, t16, t17, t18, ()))) .nil)
noncomputable def F25 : Fn := ⟨P25, R25, fun k x => S25 k x.1 x.2.1⟩
theorem ok25 : FnOK Try.prog 25 F25 := evalF_ok (E := E25) (T := B25) E25_ok mix Try.func25 rfl (by kernel_rfl) (by kernel_rfl) (fun k => by kernel_rfl) (fun k x => by kernel_rfl)
/-! ### 24: 24 (*foliot/bound.sum).add -/
noncomputable abbrev P24 : List PT := [.mbox 56 [.cell (.int .i64), .cell .bool], .val ⟨false, (.int .i64), false⟩, .val ⟨false, (.int .i64), false⟩]
noncomputable abbrev R24 : List RT := []
noncomputable def S24 (k : Nat) (s : Int) (s1 : Bool) (times : Int) (v : Int) : Option ((Unit) × (Int × Bool × Unit) × Unit) :=
  (S38 k times v).bind fun q0 =>
  (S39 k s q0.1.1).bind fun q1 =>
  (bif s1 then
    some ((), (q1.1.1, true, ()), ())
  else
    (bif !q0.1.2.1 then
      some ((), (q1.1.1, true, ()), ())
    else
      some ((), (q1.1.1, !q1.1.2.1, ()), ())))
noncomputable def E24 : Env := tab.env (lk [(38, F38), (39, F39)]) (hintL [])
theorem E24_ok : EnvOK Try.prog E24 := envOK_of tabOK _ _ (allFn_lk (l := [(38, F38), (39, F39)]) ⟨ok38, ok39, trivial⟩)
noncomputable def B24 (k : Nat) : Tbl (RD R24 × MD P24) := .nil
noncomputable def F24 : Fn := ⟨P24, R24, fun k x => S24 k x.1.1 x.1.2.1 x.2.1 x.2.2.1⟩
theorem ok24 : FnOK Try.prog 24 F24 := evalF_ok (E := E24) (T := B24) E24_ok mix Try.func24 rfl (by kernel_rfl) (by kernel_rfl) (fun k => by kernel_rfl) (fun k x => by kernel_rfl)
/-! ### 41: 41 foliot/sat.Up -/
noncomputable abbrev P41 : List PT := [.val ⟨false, (.int .i64), false⟩, .val ⟨false, (.int .i64), false⟩]
noncomputable abbrev R41 : List RT := [.val ⟨false, (.int .i64), true⟩, .val ⟨false, .bool, true⟩]
noncomputable def S41 (k : Nat) (a : Int) (b : Int) : Option ((Int × Bool × Unit) × Unit) :=
  (bif decide (b < 1) then
    some ((0, false, ()), ())
  else
    (bif decide (a < 0) then
      some ((0, false, ()), ())
    else
      nz b <|
      nz b <|
      (bif decide ((Int.tmod a b) > 0) then
        some ((IntKind.i64.wrap ((IntKind.i64.wrap (Int.tdiv a b)) + 1), true, ()), ())
      else
        some ((IntKind.i64.wrap (Int.tdiv a b), true, ()), ()))))
noncomputable def E41 : Env := tab.env (lk []) (hintL [])
theorem E41_ok : EnvOK Try.prog E41 := envOK_of tabOK _ _ (fun f F h => by cases h)
noncomputable def B41 (k : Nat) : Tbl (RD R41 × MD P41) := .nil
noncomputable def F41 : Fn := ⟨P41, R41, fun k x => S41 k x.1 x.2.1⟩
theorem ok41 : FnOK Try.prog 41 F41 := evalF_ok (E := E41) (T := B41) E41_ok mix Try.func41 rfl (by kernel_rfl) (by kernel_rfl) (fun k => by kernel_rfl) (fun k x => by kernel_rfl)
/-! ### 26: 26 foliot/bound.often -/
noncomputable abbrev P26 : List PT := [.val ⟨false, (.int .i64), false⟩, .val ⟨false, (.int .i64), false⟩]
noncomputable abbrev R26 : List RT := [.val ⟨false, (.int .i64), true⟩]
noncomputable def S26 (k : Nat) (r_ : Int) (v : Int) : Option ((Int × Unit) × Unit) :=
  (S41 k r_ v).bind fun q0 =>
  some ((q0.1.1, ()), ())
noncomputable def E26 : Env := tab.env (lk [(41, F41)]) (hintL [])
theorem E26_ok : EnvOK Try.prog E26 := envOK_of tabOK _ _ (allFn_lk (l := [(41, F41)]) ⟨ok41, trivial⟩)
noncomputable def B26 (k : Nat) : Tbl (RD R26 × MD P26) := .nil
noncomputable def F26 : Fn := ⟨P26, R26, fun k x => S26 k x.1 x.2.1⟩
theorem ok26 : FnOK Try.prog 26 F26 := evalF_ok (E := E26) (T := B26) E26_ok mix Try.func26 rfl (by kernel_rfl) (by kernel_rfl) (fun k => by kernel_rfl) (fun k x => by kernel_rfl)
/-! ### 11: 11 foliot/bound.Resp -/
noncomputable abbrev P11 : List PT := [.val ⟨false, (.sl 36 (.pair (.int .i64) (.pair (.int .i64) (.pair (.int .i64) (.pair (.sl 48 (.pair (.int .i64) (.pair (.int .i64) (.pair (.int .i64) (.int .i64))))) (.pair (.sl 48 (.pair (.int .i64) (.pair (.int .i64) (.pair (.int .i64) (.int .i64))))) (.sl 48 (.pair (.int .i64) (.pair (.int .i64) (.pair (.int .i64) (.int .i64))))))))))), false⟩, .val ⟨false, (.int .i64), false⟩, .val ⟨false, (.int .i64), false⟩]
noncomputable abbrev R11 : List RT := [.val ⟨false, (.int .i64), true⟩, .val ⟨false, (.int .i64), true⟩, .val ⟨false, (.int .i64), true⟩]
noncomputable abbrev c11_L18 : Cut := ⟨[0, 1, 2, 6, 7, 12, 18, 19, 88, 89, 90], [.cell (.sl 36 (.pair (.int .i64) (.pair (.int .i64) (.pair (.int .i64) (.pair (.sl 48 (.pair (.int .i64) (.pair (.int .i64) (.pair (.int .i64) (.int .i64))))) (.pair (.sl 48 (.pair (.int .i64) (.pair (.int .i64) (.pair (.int .i64) (.int .i64))))) (.sl 48 (.pair (.int .i64) (.pair (.int .i64) (.pair (.int .i64) (.int .i64))))))))))), .cell (.int .i64), .cell (.int .i64), .cell (.int .i64), .cell (.int .i64), .cell (.int .i64), .box 56 [.cell (.int .i64), .cell .bool], .box 56 [.cell (.int .i64), .cell .bool], .cell (.sl 36 (.pair (.int .i64) (.pair (.int .i64) (.pair (.int .i64) (.pair (.sl 48 (.pair (.int .i64) (.pair (.int .i64) (.pair (.int .i64) (.int .i64))))) (.pair (.sl 48 (.pair (.int .i64) (.pair (.int .i64) (.pair (.int .i64) (.int .i64))))) (.sl 48 (.pair (.int .i64) (.pair (.int .i64) (.pair (.int .i64) (.int .i64))))))))))), .cell (.int .i64), .cell (.int .i64)], [], 128⟩
noncomputable def l11_18 (k : Nat) (g14 : (List (Int × Int × Int × (List (Int × Int × Int × Int)) × (List (Int × Int × Int × Int)) × List (Int × Int × Int × Int))) → Int → Int → Int → Int → Int → Int → Bool → Option ((Int × Int × Int × Unit) × Unit)) (g18 : (List (Int × Int × Int × (List (Int × Int × Int × Int)) × (List (Int × Int × Int × Int)) × List (Int × Int × Int × Int))) → Int → Int → Int → Int → Int → Int → Bool → Int → Bool → (List (Int × Int × Int × (List (Int × Int × Int × Int)) × (List (Int × Int × Int × Int)) × List (Int × Int × Int × Int))) → Int → Int → Option ((Int × Int × Int × Unit) × Unit)) (l_3 : List (Int × Int × Int × (List (Int × Int × Int × Int)) × (List (Int × Int × Int × Int)) × List (Int × Int × Int × Int))) (i3 : Int) (apart3 : Int) (r_1 : Int) (rounds2 : Int) (lost2 : Int) (first2 : Int) (first3 : Bool) (next : Int) (next1 : Bool) (t88 : List (Int × Int × Int × (List (Int × Int × Int × Int)) × (List (Int × Int × Int × Int)) × List (Int × Int × Int × Int))) (t89 : Int) (t90 : Int) : Option ((Int × Int × Int × Unit) × Unit) :=
  (bif decide (t90 < t89) then
    ix t88 t90 <|
    (S23 k (rd t88 t90 (0, 0, 0, [], [], []))).bind fun q7 =>
    (S26 k r_1 (rd t88 t90 (0, 0, 0, [], [], [])).2.1).bind fun q8 =>
    (S24 k next next1 q8.1.1 q7.1.1).bind fun q9 =>
    g18 l_3 i3 apart3 r_1 rounds2 lost2 first2 first3 q9.2.1.1 q9.2.1.2.1 t88 t89 (IntKind.i64.wrap (t90 + 1))
  else
    (bif next1 then
      some ((0, 0, 13, ()), ())
    else
      ix l_3 i3 <|
      (bif decide (next > (rd l_3 i3 (0, 0, 0, [], [], [])).2.2.1) then
        some ((0, 0, 14, ()), ())
      else
        (bif next == r_1 then
          some ((r_1, rounds2, 0, ()), ())
        else
          g14 l_3 i3 apart3 next rounds2 lost2 first2 first3))))
noncomputable def b11_18 (k : Nat) (g14 : (List (Int × Int × Int × (List (Int × Int × Int × Int)) × (List (Int × Int × Int × Int)) × List (Int × Int × Int × Int))) → Int → Int → Int → Int → Int → Int → Bool → Option ((Int × Int × Int × Unit) × Unit)) (g : ((Unit) × (List (Int × Int × Int × (List (Int × Int × Int × Int)) × (List (Int × Int × Int × Int)) × List (Int × Int × Int × Int))) × Int × Int × Int × Int × Int × (Int × Bool × Unit) × (Int × Bool × Unit) × (List (Int × Int × Int × (List (Int × Int × Int × Int)) × (List (Int × Int × Int × Int)) × List (Int × Int × Int × Int))) × Int × Int × Unit) → Option ((Int × Int × Int × Unit) × Unit)) (d : (Unit) × (List (Int × Int × Int × (List (Int × Int × Int × Int)) × (List (Int × Int × Int × Int)) × List (Int × Int × Int × Int))) × Int × Int × Int × Int × Int × (Int × Bool × Unit) × (Int × Bool × Unit) × (List (Int × Int × Int × (List (Int × Int × Int × Int)) × (List (Int × Int × Int × Int)) × List (Int × Int × Int × Int))) × Int × Int × Unit) : Option ((Int × Int × Int × Unit) × Unit) := l11_18 k g14 (fun l_3 i3 apart3 r_1 rounds2 lost2 first2 first3 next next1 t88 t89 t90 => g ((), l_3, i3, apart3, r_1, rounds2, lost2, (first2, first3, ()), (next, next1, ()), t88, t89, t90, ())) d.2.1 d.2.2.1 d.2.2.2.1 d.2.2.2.2.1 d.2.2.2.2.2.1 d.2.2.2.2.2.2.1 d.2.2.2.2.2.2.2.1.1 d.2.2.2.2.2.2.2.1.2.1 d.2.2.2.2.2.2.2.2.1.1 d.2.2.2.2.2.2.2.2.1.2.1 d.2.2.2.2.2.2.2.2.2.1 d.2.2.2.2.2.2.2.2.2.2.1 d.2.2.2.2.2.2.2.2.2.2.2.1
noncomputable def L11_18 (k : Nat) (g14 : (List (Int × Int × Int × (List (Int × Int × Int × Int)) × (List (Int × Int × Int × Int)) × List (Int × Int × Int × Int))) → Int → Int → Int → Int → Int → Int → Bool → Option ((Int × Int × Int × Unit) × Unit)) (j : Nat) (l_3 : List (Int × Int × Int × (List (Int × Int × Int × Int)) × (List (Int × Int × Int × Int)) × List (Int × Int × Int × Int))) (i3 : Int) (apart3 : Int) (r_1 : Int) (rounds2 : Int) (lost2 : Int) (first2 : Int) (first3 : Bool) (next : Int) (next1 : Bool) (t88 : List (Int × Int × Int × (List (Int × Int × Int × Int)) × (List (Int × Int × Int × Int)) × List (Int × Int × Int × Int))) (t89 : Int) (t90 : Int) : Option ((Int × Int × Int × Unit) × Unit) := iter (R := (Int × Int × Int × Unit) × Unit) c11_L18 (b11_18 k g14) j ((), l_3, i3, apart3, r_1, rounds2, lost2, (first2, first3, ()), (next, next1, ()), t88, t89, t90, ())
theorem L11_18_s (k : Nat) (g14 : (List (Int × Int × Int × (List (Int × Int × Int × Int)) × (List (Int × Int × Int × Int)) × List (Int × Int × Int × Int))) → Int → Int → Int → Int → Int → Int → Bool → Option ((Int × Int × Int × Unit) × Unit)) (j : Nat) (l_3 : List (Int × Int × Int × (List (Int × Int × Int × Int)) × (List (Int × Int × Int × Int)) × List (Int × Int × Int × Int))) (i3 : Int) (apart3 : Int) (r_1 : Int) (rounds2 : Int) (lost2 : Int) (first2 : Int) (first3 : Bool) (next : Int) (next1 : Bool) (t88 : List (Int × Int × Int × (List (Int × Int × Int × Int)) × (List (Int × Int × Int × Int)) × List (Int × Int × Int × Int))) (t89 : Int) (t90 : Int) : L11_18 k g14 (j + 1) l_3 i3 apart3 r_1 rounds2 lost2 first2 first3 next next1 t88 t89 t90 = l11_18 k g14 (L11_18 k g14 j) l_3 i3 apart3 r_1 rounds2 lost2 first2 first3 next next1 t88 t89 t90 := iter_succ _ _ _ _
noncomputable abbrev c11_L14 : Cut := ⟨[0, 1, 2, 6, 7, 12, 18], [.cell (.sl 36 (.pair (.int .i64) (.pair (.int .i64) (.pair (.int .i64) (.pair (.sl 48 (.pair (.int .i64) (.pair (.int .i64) (.pair (.int .i64) (.int .i64))))) (.pair (.sl 48 (.pair (.int .i64) (.pair (.int .i64) (.pair (.int .i64) (.int .i64))))) (.sl 48 (.pair (.int .i64) (.pair (.int .i64) (.pair (.int .i64) (.int .i64))))))))))), .cell (.int .i64), .cell (.int .i64), .cell (.int .i64), .cell (.int .i64), .cell (.int .i64), .box 56 [.cell (.int .i64), .cell .bool]], [], 128⟩
noncomputable def l11_14 (k : Nat) (g14 : (List (Int × Int × Int × (List (Int × Int × Int × Int)) × (List (Int × Int × Int × Int)) × List (Int × Int × Int × Int))) → Int → Int → Int → Int → Int → Int → Bool → Option ((Int × Int × Int × Unit) × Unit)) (l_2 : List (Int × Int × Int × (List (Int × Int × Int × Int)) × (List (Int × Int × Int × Int)) × List (Int × Int × Int × Int))) (i2 : Int) (apart2 : Int) (r_ : Int) (rounds1 : Int) (lost1 : Int) (first : Int) (first1 : Bool) : Option ((Int × Int × Int × Unit) × Unit) :=
  (S26 k r_ apart2).bind fun q5 =>
  (S24 k first first1 q5.1.1 lost1).bind fun q6 =>
  sx l_2 0 i2 <|
  L11_18 k g14 k l_2 i2 apart2 r_ (IntKind.i64.wrap (rounds1 + 1)) lost1 first first1 q6.2.1.1 q6.2.1.2.1 (sub l_2 0 i2) ((sub l_2 0 i2).length : Int) 0
noncomputable def b11_14 (k : Nat) (g : ((Unit) × (List (Int × Int × Int × (List (Int × Int × Int × Int)) × (List (Int × Int × Int × Int)) × List (Int × Int × Int × Int))) × Int × Int × Int × Int × Int × (Int × Bool × Unit) × Unit) → Option ((Int × Int × Int × Unit) × Unit)) (d : (Unit) × (List (Int × Int × Int × (List (Int × Int × Int × Int)) × (List (Int × Int × Int × Int)) × List (Int × Int × Int × Int))) × Int × Int × Int × Int × Int × (Int × Bool × Unit) × Unit) : Option ((Int × Int × Int × Unit) × Unit) := l11_14 k (fun l_2 i2 apart2 r_ rounds1 lost1 first first1 => g ((), l_2, i2, apart2, r_, rounds1, lost1, (first, first1, ()), ())) d.2.1 d.2.2.1 d.2.2.2.1 d.2.2.2.2.1 d.2.2.2.2.2.1 d.2.2.2.2.2.2.1 d.2.2.2.2.2.2.2.1.1 d.2.2.2.2.2.2.2.1.2.1
noncomputable def L11_14 (k : Nat) (j : Nat) (l_2 : List (Int × Int × Int × (List (Int × Int × Int × Int)) × (List (Int × Int × Int × Int)) × List (Int × Int × Int × Int))) (i2 : Int) (apart2 : Int) (r_ : Int) (rounds1 : Int) (lost1 : Int) (first : Int) (first1 : Bool) : Option ((Int × Int × Int × Unit) × Unit) := iter (R := (Int × Int × Int × Unit) × Unit) c11_L14 (b11_14 k) j ((), l_2, i2, apart2, r_, rounds1, lost1, (first, first1, ()), ())
theorem L11_14_s (k : Nat) (j : Nat) (l_2 : List (Int × Int × Int × (List (Int × Int × Int × Int)) × (List (Int × Int × Int × Int)) × List (Int × Int × Int × Int))) (i2 : Int) (apart2 : Int) (r_ : Int) (rounds1 : Int) (lost1 : Int) (first : Int) (first1 : Bool) : L11_14 k (j + 1) l_2 i2 apart2 r_ rounds1 lost1 first first1 = l11_14 k (L11_14 k j) l_2 i2 apart2 r_ rounds1 lost1 first first1 := iter_succ _ _ _ _
noncomputable abbrev c11_L6 : Cut := ⟨[0, 1, 2, 7, 9, 12, 54, 55, 56], [.cell (.sl 36 (.pair (.int .i64) (.pair (.int .i64) (.pair (.int .i64) (.pair (.sl 48 (.pair (.int .i64) (.pair (.int .i64) (.pair (.int .i64) (.int .i64))))) (.pair (.sl 48 (.pair (.int .i64) (.pair (.int .i64) (.pair (.int .i64) (.int .i64))))) (.sl 48 (.pair (.int .i64) (.pair (.int .i64) (.pair (.int .i64) (.int .i64))))))))))), .cell (.int .i64), .cell (.int .i64), .cell (.int .i64), .cell (.int .i64), .cell (.int .i64), .cell (.sl 36 (.pair (.int .i64) (.pair (.int .i64) (.pair (.int .i64) (.pair (.sl 48 (.pair (.int .i64) (.pair (.int .i64) (.pair (.int .i64) (.int .i64))))) (.pair (.sl 48 (.pair (.int .i64) (.pair (.int .i64) (.pair (.int .i64) (.int .i64))))) (.sl 48 (.pair (.int .i64) (.pair (.int .i64) (.pair (.int .i64) (.int .i64))))))))))), .cell (.int .i64), .cell (.int .i64)], [], 128⟩
noncomputable def l11_6 (k : Nat) (g6 : (List (Int × Int × Int × (List (Int × Int × Int × Int)) × (List (Int × Int × Int × Int)) × List (Int × Int × Int × Int))) → Int → Int → Int → Int → Int → (List (Int × Int × Int × (List (Int × Int × Int × Int)) × (List (Int × Int × Int × Int)) × List (Int × Int × Int × Int))) → Int → Int → Option ((Int × Int × Int × Unit) × Unit)) (l_1 : List (Int × Int × Int × (List (Int × Int × Int × Int)) × (List (Int × Int × Int × Int)) × List (Int × Int × Int × Int))) (i1 : Int) (apart1 : Int) (rounds : Int) (own : Int) (lost : Int) (t54 : List (Int × Int × Int × (List (Int × Int × Int × Int)) × (List (Int × Int × Int × Int)) × List (Int × Int × Int × Int))) (t55 : Int) (t56 : Int) : Option ((Int × Int × Int × Unit) × Unit) :=
  (bif decide (t56 < t55) then
    ix t54 t56 <|
    (S23 k (rd t54 t56 (0, 0, 0, [], [], []))).bind fun q2 =>
    g6 l_1 i1 apart1 rounds own (mx lost q2.1.2.1) t54 t55 (IntKind.i64.wrap (t56 + 1))
  else
    (S25 k l_1 i1).bind fun q3 =>
    (S24 k own false 1 q3.1.1).bind fun q4 =>
    L11_14 k k l_1 i1 apart1 q4.2.1.1 rounds lost q4.2.1.1 q4.2.1.2.1)
noncomputable def b11_6 (k : Nat) (g : ((Unit) × (List (Int × Int × Int × (List (Int × Int × Int × Int)) × (List (Int × Int × Int × Int)) × List (Int × Int × Int × Int))) × Int × Int × Int × Int × Int × (List (Int × Int × Int × (List (Int × Int × Int × Int)) × (List (Int × Int × Int × Int)) × List (Int × Int × Int × Int))) × Int × Int × Unit) → Option ((Int × Int × Int × Unit) × Unit)) (d : (Unit) × (List (Int × Int × Int × (List (Int × Int × Int × Int)) × (List (Int × Int × Int × Int)) × List (Int × Int × Int × Int))) × Int × Int × Int × Int × Int × (List (Int × Int × Int × (List (Int × Int × Int × Int)) × (List (Int × Int × Int × Int)) × List (Int × Int × Int × Int))) × Int × Int × Unit) : Option ((Int × Int × Int × Unit) × Unit) := l11_6 k (fun l_1 i1 apart1 rounds own lost t54 t55 t56 => g ((), l_1, i1, apart1, rounds, own, lost, t54, t55, t56, ())) d.2.1 d.2.2.1 d.2.2.2.1 d.2.2.2.2.1 d.2.2.2.2.2.1 d.2.2.2.2.2.2.1 d.2.2.2.2.2.2.2.1 d.2.2.2.2.2.2.2.2.1 d.2.2.2.2.2.2.2.2.2.1
noncomputable def L11_6 (k : Nat) (j : Nat) (l_1 : List (Int × Int × Int × (List (Int × Int × Int × Int)) × (List (Int × Int × Int × Int)) × List (Int × Int × Int × Int))) (i1 : Int) (apart1 : Int) (rounds : Int) (own : Int) (lost : Int) (t54 : List (Int × Int × Int × (List (Int × Int × Int × Int)) × (List (Int × Int × Int × Int)) × List (Int × Int × Int × Int))) (t55 : Int) (t56 : Int) : Option ((Int × Int × Int × Unit) × Unit) := iter (R := (Int × Int × Int × Unit) × Unit) c11_L6 (b11_6 k) j ((), l_1, i1, apart1, rounds, own, lost, t54, t55, t56, ())
theorem L11_6_s (k : Nat) (j : Nat) (l_1 : List (Int × Int × Int × (List (Int × Int × Int × Int)) × (List (Int × Int × Int × Int)) × List (Int × Int × Int × Int))) (i1 : Int) (apart1 : Int) (rounds : Int) (own : Int) (lost : Int) (t54 : List (Int × Int × Int × (List (Int × Int × Int × Int)) × (List (Int × Int × Int × Int)) × List (Int × Int × Int × Int))) (t55 : Int) (t56 : Int) : L11_6 k (j + 1) l_1 i1 apart1 rounds own lost t54 t55 t56 = l11_6 k (L11_6 k j) l_1 i1 apart1 rounds own lost t54 t55 t56 := iter_succ _ _ _ _
noncomputable def S11 (k : Nat) (l_ : List (Int × Int × Int × (List (Int × Int × Int × Int)) × (List (Int × Int × Int × Int)) × List (Int × Int × Int × Int))) (i : Int) (apart : Int) : Option ((Int × Int × Int × Unit) × Unit) :=
  (S22 k l_).bind fun q0 =>
  (bif !q0.1.1 then
    some ((0, 0, 1, ()), ())
  else
    (bif decide (i < 0) then
      some ((0, 0, 1, ()), ())
    else
      (bif decide (i ≥ (l_.length : Int)) then
        some ((0, 0, 1, ()), ())
      else
        (bif decide (apart < 1) then
          some ((0, 0, 1, ()), ())
        else
          ix l_ i <|
          (S23 k (rd l_ i (0, 0, 0, [], [], []))).bind fun q1 =>
          sx l_ 0 (IntKind.i64.wrap (i + 1)) <|
          L11_6 k k l_ i apart 0 q1.1.1 0 (sub l_ 0 (IntKind.i64.wrap (i + 1))) ((sub l_ 0 (IntKind.i64.wrap (i + 1))).length : Int) 0))))
noncomputable def E11 : Env := tab.env (lk [(22, F22), (23, F23), (24, F24), (25, F25), (26, F26)]) (hintL [])
theorem E11_ok : EnvOK Try.prog E11 := envOK_of tabOK _ _ (allFn_lk (l := [(22, F22), (23, F23), (24, F24), (25, F25), (26, F26)]) ⟨ok22, ok23, ok24, ok25, ok26, trivial⟩)
noncomputable def B11 (k : Nat) : Tbl (RD R11 × MD P11) := (.loop 14 c11_L14 (b11_14 k) (fun g => (fun (g14 : (List (Int × Int × Int × (List (Int × Int × Int × Int)) × (List (Int × Int × Int × Int)) × List (Int × Int × Int × Int))) → Int → Int → Int → Int → Int → Int → Bool → Option ((Int × Int × Int × Unit) × Unit)) => (.loop 18 c11_L18 (b11_18 k g14) (fun g => .nil) .nil)) (fun l_2 i2 apart2 r_ rounds1 lost1 first first1 => g ((), l_2, i2, apart2, r_, rounds1, lost1, (first, first1, ()), ()))) (.loop 6 c11_L6 (b11_6 k) (fun g => .nil) .nil))
noncomputable def F11 : Fn := ⟨P11, R11, fun k x => S11 k x.1 x.2.1 x.2.2.1⟩
theorem ok11 : FnOK Try.prog 11 F11 := evalF_ok (E := E11) (T := B11) E11_ok mix Try.func11 rfl (by kernel_rfl) (by kernel_rfl) (fun k => by kernel_rfl) (fun k x => by kernel_rfl)
/-! ### 9: 9 foliot/foliotlaw17.begun -/
noncomputable abbrev P9 : List PT := []
noncomputable abbrev R9 : List RT := [.val ⟨false, .bool, true⟩]
noncomputable def S9 (k : Nat) : Option ((Bool × Unit) × Unit) :=
  (S11 k ([(1, 50, 50, ([(1, 0, 0, 0), (1, 0, 0, 0), (0, 0, 0, 0)] : List (Int × Int × Int × Int)), [], [])] : List (Int × Int × Int × (List (Int × Int × Int × Int)) × (List (Int × Int × Int × Int)) × List (Int × Int × Int × Int))) 0 100).bind fun q0 =>
  (S11 k ([(1, 50, 50, ([(1, 0, 0, 0), (1, 0, 0, 0), (0, 0, 0, 0)] : List (Int × Int × Int × Int)), [], [])] : List (Int × Int × Int × (List (Int × Int × Int × Int)) × (List (Int × Int × Int × Int)) × List (Int × Int × Int × Int))) 1 100).bind fun q1 =>
  (bif q0.1.2.2.1 == 0 then
    (bif q0.1.1 == 6 then
      (bif q0.1.2.1 == 2 then
        some ((q1.1.2.2.1 == 1, ()), ())
      else
        some ((false, ()), ()))
    else
      some ((false, ()), ()))
  else
    some ((false, ()), ()))
noncomputable def E9 : Env := tab.env (lk [(11, F11)]) (hintL [])
theorem E9_ok : EnvOK Try.prog E9 := envOK_of tabOK _ _ (allFn_lk (l := [(11, F11)]) ⟨ok11, trivial⟩)
noncomputable def B9 (k : Nat) : Tbl (RD R9 × MD P9) := .nil
noncomputable def F9 : Fn := ⟨P9, R9, fun k x => S9 k ⟩
theorem ok9 : FnOK Try.prog 9 F9 := evalF_ok (E := E9) (T := B9) E9_ok mix Try.func9 rfl (by kernel_rfl) (by kernel_rfl) (fun k => by kernel_rfl) (fun k x => by kernel_rfl)
end Go.Proofs.Ytgmjmlgghdodoaa.Ab
