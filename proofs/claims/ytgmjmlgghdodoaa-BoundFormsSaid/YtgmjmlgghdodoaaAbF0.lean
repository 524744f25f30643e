import Derived.Test.YtgmjmlgghdodoaaAbLib
/- Contracts, printed by this session's own program gen.py. -/
set_option linter.unusedVariables false
set_option linter.unusedSimpArgs false
set_option maxRecDepth 100000
namespace Go.Proofs.Ytgmjmlgghdodoaa.Ab
open Go.RowKit Go.Proofs.YtgmjmlgghdodoaaW.PrintWords
/-! ### 79: 79 foliot/code.memory -/
noncomputable abbrev P79 : List PT := [.val ⟨false, (.int .i64), false⟩]
noncomputable abbrev R79 : List RT := [.val ⟨false, .bool, true⟩]
noncomputable def S79 (k : Nat) (a : Int) : Option ((Bool × Unit) × Unit) :=
  (bif decide (a ≥ 0) then
    some ((decide (a < 8), ()), ())
  else
    some ((false, ()), ()))
noncomputable def E79 : Env := tab.env (lk []) (hintL [])
theorem E79_ok : EnvOK Try.prog E79 := envOK_of tabOK _ _ (fun f F h => by cases h)
noncomputable def B79 (k : Nat) : Tbl (RD R79 × MD P79) := .nil
noncomputable def F79 : Fn := ⟨P79, R79, fun k x => S79 k x.1⟩
theorem ok79 : FnOK Try.prog 79 F79 := evalF_ok (E := E79) (T := B79) E79_ok mix Try.func79 rfl (by kernel_rfl) (by kernel_rfl) (fun k => by kernel_rfl) (fun k x => by kernel_rfl)
/-! ### 80: 80 foliot/code.within -/
noncomputable abbrev P80 : List PT := [.val ⟨false, (.int .i64), false⟩, .val ⟨false, (.int .i64), false⟩, .val ⟨false, (.int .i64), false⟩]
noncomputable abbrev R80 : List RT := [.val ⟨false, .bool, true⟩]
noncomputable def S80 (k : Nat) (v : Int) (from_ : Int) (to_ : Int) : Option ((Bool × Unit) × Unit) :=
  (bif decide (v ≥ from_) then
    some ((decide (v ≤ to_), ()), ())
  else
    some ((false, ()), ()))
noncomputable def E80 : Env := tab.env (lk []) (hintL [])
theorem E80_ok : EnvOK Try.prog E80 := envOK_of tabOK _ _ (fun f F h => by cases h)
noncomputable def B80 (k : Nat) : Tbl (RD R80 × MD P80) := .nil
noncomputable def F80 : Fn := ⟨P80, R80, fun k x => S80 k x.1 x.2.1 x.2.2.1⟩
theorem ok80 : FnOK Try.prog 80 F80 := evalF_ok (E := E80) (T := B80) E80_ok mix Try.func80 rfl (by kernel_rfl) (by kernel_rfl) (fun k => by kernel_rfl) (fun k x => by kernel_rfl)
/-! ### 68: 68 foliot/code.May -/
noncomputable abbrev P68 : List PT := [.val ⟨true, (.pair (.int .i64) (.pair (.int .i64) (.pair (.int .i64) (.int .i64)))), false⟩]
noncomputable abbrev R68 : List RT := [.val ⟨false, .bool, true⟩]
noncomputable def S68 (k : Nat) (i : Int × Int × Int × Int) : Option ((Bool × Unit) × Unit) :=
  (bif i.1 == 0 then
    (bif i.2.1 == 0 then
      (bif i.2.2.1 == 0 then
        some ((i.2.2.2 == 0, ()), ())
      else
        some ((false, ()), ()))
    else
      some ((false, ()), ()))
  else
    (bif i.1 == 11 then
      (bif i.2.1 == 0 then
        (bif i.2.2.1 == 0 then
          some ((i.2.2.2 == 0, ()), ())
        else
          some ((false, ()), ()))
      else
        some ((false, ()), ()))
    else
      (bif i.1 == 1 then
        (S79 k i.2.1).bind fun q0 =>
        (bif q0.1.1 then
          (bif i.2.2.1 == 0 then
            (S80 k i.2.2.2 (-2147483648) 2147483647).bind fun q1 =>
            some ((q1.1.1, ()), ())
          else
            some ((false, ()), ()))
        else
          some ((false, ()), ()))
      else
        (bif i.1 == 2 then
          (S79 k i.2.1).bind fun q2 =>
          (bif q2.1.1 then
            (S79 k i.2.2.1).bind fun q3 =>
            (bif q3.1.1 then
              some ((i.2.2.2 == 0, ()), ())
            else
              some ((false, ()), ()))
          else
            some ((false, ()), ()))
        else
          (bif i.1 == 3 then
            (S79 k i.2.1).bind fun q4 =>
            (bif q4.1.1 then
              (S79 k i.2.2.1).bind fun q5 =>
              (bif q5.1.1 then
                some ((i.2.2.2 == 0, ()), ())
              else
                some ((false, ()), ()))
            else
              some ((false, ()), ()))
          else
            (bif i.1 == 4 then
              (S79 k i.2.1).bind fun q6 =>
              (bif q6.1.1 then
                (S79 k i.2.2.1).bind fun q7 =>
                (bif q7.1.1 then
                  some ((i.2.2.2 == 0, ()), ())
                else
                  some ((false, ()), ()))
              else
                some ((false, ()), ()))
            else
              (bif i.1 == 5 then
                (S79 k i.2.1).bind fun q8 =>
                (bif q8.1.1 then
                  (bif i.2.2.1 == 0 then
                    (S80 k i.2.2.2 (-63) 63).bind fun q9 =>
                    some ((q9.1.1, ()), ())
                  else
                    some ((false, ()), ()))
                else
                  some ((false, ()), ()))
              else
                (bif i.1 == 6 then
                  (S79 k i.2.1).bind fun q10 =>
                  (bif q10.1.1 then
                    (bif i.2.2.1 == 0 then
                      (S80 k i.2.2.2 1 64).bind fun q11 =>
                      some ((q11.1.1, ()), ())
                    else
                      some ((false, ()), ()))
                  else
                    some ((false, ()), ()))
                else
                  (bif i.1 == 7 then
                    (S79 k i.2.1).bind fun q12 =>
                    (bif q12.1.1 then
                      (bif i.2.2.1 == 0 then
                        (S80 k i.2.2.2 1 24).bind fun q13 =>
                        some ((q13.1.1, ()), ())
                      else
                        some ((false, ()), ()))
                    else
                      some ((false, ()), ()))
                  else
                    (bif i.1 == 8 then
                      (bif i.2.1 == 0 then
                        (S80 k i.2.2.1 1 24).bind fun q14 =>
                        (bif q14.1.1 then
                          (S80 k i.2.2.2 1 20).bind fun q15 =>
                          some ((q15.1.1, ()), ())
                        else
                          some ((false, ()), ()))
                      else
                        some ((false, ()), ()))
                    else
                      (bif i.1 == 9 then
                        (S80 k i.2.1 0 3).bind fun q16 =>
                        (bif q16.1.1 then
                          (bif i.2.2.1 == 0 then
                            some ((i.2.2.2 == 0, ()), ())
                          else
                            some ((false, ()), ()))
                        else
                          some ((false, ()), ()))
                      else
                        (bif i.1 == 10 then
                          (S80 k i.2.1 0 3).bind fun q17 =>
                          (bif q17.1.1 then
                            (bif i.2.2.1 == 0 then
                              some ((i.2.2.2 == 0, ()), ())
                            else
                              some ((false, ()), ()))
                          else
                            some ((false, ()), ()))
                        else
                          some ((false, ()), ())))))))))))))
noncomputable def E68 : Env := tab.env (lk [(79, F79), (80, F80)]) (hintL [])
theorem E68_ok : EnvOK Try.prog E68 := envOK_of tabOK _ _ (allFn_lk (l := [(79, F79), (80, F80)]) ⟨ok79, ok80, trivial⟩)
noncomputable def B68 (k : Nat) : Tbl (RD R68 × MD P68) := .nil
noncomputable def F68 : Fn := ⟨P68, R68, fun k x => S68 k x.1⟩
theorem ok68 : FnOK Try.prog 68 F68 := evalF_ok (E := E68) (T := B68) E68_ok mix Try.func68 rfl (by kernel_rfl) (by kernel_rfl) (fun k => by kernel_rfl) (fun k x => by kernel_rfl)
/-! ### 67: 67 foliot/shape.May$1 -/
noncomputable abbrev P67 : List PT := [.val ⟨true, (.pair (.int .i64) (.pair (.int .i64) (.pair (.int .i64) (.int .i64)))), false⟩]
noncomputable abbrev R67 : List RT := [.val ⟨false, .bool, true⟩]
noncomputable def S67 (k : Nat) (i : Int × Int × Int × Int) : Option ((Bool × Unit) × Unit) :=
  (S68 k i).bind fun q0 =>
  some ((!q0.1.1, ()), ())
noncomputable def E67 : Env := tab.env (lk [(68, F68)]) (hintL [])
theorem E67_ok : EnvOK Try.prog E67 := envOK_of tabOK _ _ (allFn_lk (l := [(68, F68)]) ⟨ok68, trivial⟩)
noncomputable def B67 (k : Nat) : Tbl (RD R67 × MD P67) := .nil
noncomputable def F67 : Fn := ⟨P67, R67, fun k x => S67 k x.1⟩
theorem ok67 : FnOK Try.prog 67 F67 := evalF_ok (E := E67) (T := B67) E67_ok mix Try.func67 rfl (by kernel_rfl) (by kernel_rfl) (fun k => by kernel_rfl) (fun k x => by kernel_rfl)
/-! ### 69: 69 slices.IndexFunc[[]foliot/api.Inst,foliot/api.Inst] -/
noncomputable abbrev P69 : List PT := [.val ⟨false, (.sl 48 (.pair (.int .i64) (.pair (.int .i64) (.pair (.int .i64) (.int .i64))))), false⟩, .pv (.clo 67 [])]
noncomputable abbrev R69 : List RT := [.val ⟨false, (.int .i64), true⟩]
noncomputable abbrev c69_L2 : Cut := ⟨[0, 1, 7, 8], [.cell (.sl 48 (.pair (.int .i64) (.pair (.int .i64) (.pair (.int .i64) (.int .i64))))), .clo 67 [], .cell (.int .i64), .cell (.int .i64)], [], 19⟩
noncomputable def l69_2 (k : Nat) (g2 : (List (Int × Int × Int × Int)) → Int → Int → Option ((Int × Unit) × Unit)) (s1 : List (Int × Int × Int × Int)) (t7 : Int) (t8 : Int) : Option ((Int × Unit) × Unit) :=
  (bif decide (t8 < t7) then
    ix s1 t8 <|
    (S67 k (rd s1 t8 (0, 0, 0, 0))).bind fun q0 =>
    (bif q0.1.1 then
      some ((t8, ()), ())
    else
      g2 s1 t7 (IntKind.i64.wrap (t8 + 1)))
  else
    some (((-1), ()), ()))
noncomputable def b69_2 (k : Nat) (g : ((Unit) × (List (Int × Int × Int × Int)) × Unit × Int × Int × Unit) → Option ((Int × Unit) × Unit)) (d : (Unit) × (List (Int × Int × Int × Int)) × Unit × Int × Int × Unit) : Option ((Int × Unit) × Unit) := l69_2 k (fun s1 t7 t8 => g ((), s1, (), t7, t8, ())) d.2.1 d.2.2.2.1 d.2.2.2.2.1
noncomputable def L69_2 (k : Nat) (j : Nat) (s1 : List (Int × Int × Int × Int)) (t7 : Int) (t8 : Int) : Option ((Int × Unit) × Unit) := iter (R := (Int × Unit) × Unit) c69_L2 (b69_2 k) j ((), s1, (), t7, t8, ())
theorem L69_2_s (k : Nat) (j : Nat) (s1 : List (Int × Int × Int × Int)) (t7 : Int) (t8 : Int) : L69_2 k (j + 1) s1 t7 t8 = l69_2 k (L69_2 k j) s1 t7 t8 := iter_succ _ _ _ _
noncomputable def S69 (k : Nat) (s : List (Int × Int × Int × Int)) : Option ((Int × Unit) × Unit) :=
  L69_2 k k s (s.length : Int) 0
noncomputable def E69 : Env := tab.env (lk [(67, F67)]) (hintL [])
theorem E69_ok : EnvOK Try.prog E69 := envOK_of tabOK _ _ (allFn_lk (l := [(67, F67)]) ⟨ok67, trivial⟩)
noncomputable def B69 (k : Nat) : Tbl (RD R69 × MD P69) := (.loop 2 c69_L2 (b69_2 k) (fun g => .nil) .nil)
noncomputable def F69 : Fn := ⟨P69, R69, fun k x => S69 k x.1⟩
theorem ok69 : FnOK Try.prog 69 F69 := evalF_ok (E := E69) (T := B69) E69_ok mix Try.func69 rfl (by kernel_rfl) (by kernel_rfl) (fun k => by kernel_rfl) (fun k x => by kernel_rfl)
/-! ### 59: 59 slices.ContainsFunc[[]foliot/api.Inst,foliot/api.Inst] -/
noncomputable abbrev P59 : List PT := [.val ⟨false, (.sl 48 (.pair (.int .i64) (.pair (.int .i64) (.pair (.int .i64) (.int .i64))))), false⟩, .pv (.clo 67 [])]
noncomputable abbrev R59 : List RT := [.val ⟨false, .bool, true⟩]
noncomputable def S59 (k : Nat) (s : List (Int × Int × Int × Int)) : Option ((Bool × Unit) × Unit) :=
  (S69 k s).bind fun q0 =>
  some ((decide (q0.1.1 ≥ 0), ()), ())
noncomputable def E59 : Env := tab.env (lk [(69, F69)]) (hintL [])
theorem E59_ok : EnvOK Try.prog E59 := envOK_of tabOK _ _ (allFn_lk (l := [(69, F69)]) ⟨ok69, trivial⟩)
noncomputable def B59 (k : Nat) : Tbl (RD R59 × MD P59) := .nil
noncomputable def F59 : Fn := ⟨P59, R59, fun k x => S59 k x.1⟩
theorem ok59 : FnOK Try.prog 59 F59 := evalF_ok (E := E59) (T := B59) E59_ok mix Try.func59 rfl (by kernel_rfl) (by kernel_rfl) (fun k => by kernel_rfl) (fun k x => by kernel_rfl)
/-! ### 70: 70 foliot/shape.May$2 -/
noncomputable abbrev P70 : List PT := [.val ⟨true, (.pair (.int .i64) (.pair (.int .i64) (.pair (.int .i64) (.int .i64)))), false⟩]
noncomputable abbrev R70 : List RT := [.val ⟨false, .bool, true⟩]
noncomputable def S70 (k : Nat) (i : Int × Int × Int × Int) : Option ((Bool × Unit) × Unit) :=
  some ((i.1 == 0, ()), ())
noncomputable def E70 : Env := tab.env (lk []) (hintL [])
theorem E70_ok : EnvOK Try.prog E70 := envOK_of tabOK _ _ (fun f F h => by cases h)
noncomputable def B70 (k : Nat) : Tbl (RD R70 × MD P70) := .nil
noncomputable def F70 : Fn := ⟨P70, R70, fun k x => S70 k x.1⟩
theorem ok70 : FnOK Try.prog 70 F70 := evalF_ok (E := E70) (T := B70) E70_ok mix Try.func70 rfl (by kernel_rfl) (by kernel_rfl) (fun k => by kernel_rfl) (fun k x => by kernel_rfl)
/-! ### 69a: 69 slices.IndexFunc[[]foliot/api.Inst,foliot/api.Inst] -/
noncomputable abbrev P69a : List PT := [.val ⟨false, (.sl 48 (.pair (.int .i64) (.pair (.int .i64) (.pair (.int .i64) (.int .i64))))), false⟩, .pv (.clo 70 [])]
noncomputable abbrev R69a : List RT := [.val ⟨false, (.int .i64), true⟩]
noncomputable abbrev c69a_L2 : Cut := ⟨[0, 1, 7, 8], [.cell (.sl 48 (.pair (.int .i64) (.pair (.int .i64) (.pair (.int .i64) (.int .i64))))), .clo 70 [], .cell (.int .i64), .cell (.int .i64)], [], 19⟩
noncomputable def l69a_2 (k : Nat) (g2 : (List (Int × Int × Int × Int)) → Int → Int → Option ((Int × Unit) × Unit)) (s1 : List (Int × Int × Int × Int)) (t7 : Int) (t8 : Int) : Option ((Int × Unit) × Unit) :=
  (bif decide (t8 < t7) then
    ix s1 t8 <|
    (S70 k (rd s1 t8 (0, 0, 0, 0))).bind fun q0 =>
    (bif q0.1.1 then
      some ((t8, ()), ())
    else
      g2 s1 t7 (IntKind.i64.wrap (t8 + 1)))
  else
    some (((-1), ()), ()))
noncomputable def b69a_2 (k : Nat) (g : ((Unit) × (List (Int × Int × Int × Int)) × Unit × Int × Int × Unit) → Option ((Int × Unit) × Unit)) (d : (Unit) × (List (Int × Int × Int × Int)) × Unit × Int × Int × Unit) : Option ((Int × Unit) × Unit) := l69a_2 k (fun s1 t7 t8 => g ((), s1, (), t7, t8, ())) d.2.1 d.2.2.2.1 d.2.2.2.2.1
noncomputable def L69a_2 (k : Nat) (j : Nat) (s1 : List (Int × Int × Int × Int)) (t7 : Int) (t8 : Int) : Option ((Int × Unit) × Unit) := iter (R := (Int × Unit) × Unit) c69a_L2 (b69a_2 k) j ((), s1, (), t7, t8, ())
theorem L69a_2_s (k : Nat) (j : Nat) (s1 : List (Int × Int × Int × Int)) (t7 : Int) (t8 : Int) : L69a_2 k (j + 1) s1 t7 t8 = l69a_2 k (L69a_2 k j) s1 t7 t8 := iter_succ _ _ _ _
noncomputable def S69a (k : Nat) (s : List (Int × Int × Int × Int)) : Option ((Int × Unit) × Unit) :=
  L69a_2 k k s (s.length : Int) 0
noncomputable def E69a : Env := tab.env (lk [(70, F70)]) (hintL [])
theorem E69a_ok : EnvOK Try.prog E69a := envOK_of tabOK _ _ (allFn_lk (l := [(70, F70)]) ⟨ok70, trivial⟩)
noncomputable def B69a (k : Nat) : Tbl (RD R69a × MD P69a) := (.loop 2 c69a_L2 (b69a_2 k) (fun g => .nil) .nil)
noncomputable def F69a : Fn := ⟨P69a, R69a, fun k x => S69a k x.1⟩
theorem ok69a : FnOK Try.prog 69 F69a := evalF_ok (E := E69a) (T := B69a) E69a_ok mix Try.func69 rfl (by kernel_rfl) (by kernel_rfl) (fun k => by kernel_rfl) (fun k x => by kernel_rfl)
/-! ### 81: 81 foliot/shape.pieces -/
noncomputable abbrev P81 : List PT := [.val ⟨false, (.sl 48 (.pair (.int .i64) (.pair (.int .i64) (.pair (.int .i64) (.int .i64))))), false⟩]
noncomputable abbrev R81 : List RT := [.val ⟨false, (.sl 117 (.pair (.int .i64) (.pair (.int .i64) (.pair (.int .i64) .bool)))), true⟩]
noncomputable abbrev c81_L2 : Cut := ⟨[2, 5, 6, 7], [.own 117 (.pair (.int .i64) (.pair (.int .i64) (.pair (.int .i64) .bool))), .cell (.sl 48 (.pair (.int .i64) (.pair (.int .i64) (.pair (.int .i64) (.int .i64))))), .cell (.int .i64), .cell (.int .i64)], [], 42⟩
noncomputable def l81_2 (k : Nat) (g2 : (List (Int × Int × Int × Bool)) → (List (Int × Int × Int × Int)) → Int → Int → Option (((List (Int × Int × Int × Bool)) × Unit) × Unit)) (out : List (Int × Int × Int × Bool)) (t5 : List (Int × Int × Int × Int)) (t6 : Int) (t7 : Int) : Option (((List (Int × Int × Int × Bool)) × Unit) × Unit) :=
  (bif decide (t7 < t6) then
    ix t5 t7 <|
    (bif (rd t5 t7 (0, 0, 0, 0)).1 == 8 then
      ap out ([(IntKind.i64.wrap (t7 + 1), IntKind.i64.wrap (t7 + (rd t5 t7 (0, 0, 0, 0)).2.2.1), t7, true)] : List (Int × Int × Int × Bool)) 32 fun r0 =>
      g2 r0 t5 t6 (IntKind.i64.wrap (t7 + 1))
    else
      (bif (rd t5 t7 (0, 0, 0, 0)).1 == 7 then
        ap out ([(IntKind.i64.wrap (t7 + 1), IntKind.i64.wrap (t7 + (rd t5 t7 (0, 0, 0, 0)).2.2.2), t7, false)] : List (Int × Int × Int × Bool)) 32 fun r1 =>
        g2 r1 t5 t6 (IntKind.i64.wrap (t7 + 1))
      else
        g2 out t5 t6 (IntKind.i64.wrap (t7 + 1))))
  else
    some ((out, ()), ()))
noncomputable def b81_2 (k : Nat) (g : ((Unit) × (List (Int × Int × Int × Bool)) × (List (Int × Int × Int × Int)) × Int × Int × Unit) → Option (((List (Int × Int × Int × Bool)) × Unit) × Unit)) (d : (Unit) × (List (Int × Int × Int × Bool)) × (List (Int × Int × Int × Int)) × Int × Int × Unit) : Option (((List (Int × Int × Int × Bool)) × Unit) × Unit) := l81_2 k (fun out t5 t6 t7 => g ((), out, t5, t6, t7, ())) d.2.1 d.2.2.1 d.2.2.2.1 d.2.2.2.2.1
noncomputable def L81_2 (k : Nat) (j : Nat) (out : List (Int × Int × Int × Bool)) (t5 : List (Int × Int × Int × Int)) (t6 : Int) (t7 : Int) : Option (((List (Int × Int × Int × Bool)) × Unit) × Unit) := iter (R := ((List (Int × Int × Int × Bool)) × Unit) × Unit) c81_L2 (b81_2 k) j ((), out, t5, t6, t7, ())
theorem L81_2_s (k : Nat) (j : Nat) (out : List (Int × Int × Int × Bool)) (t5 : List (Int × Int × Int × Int)) (t6 : Int) (t7 : Int) : L81_2 k (j + 1) out t5 t6 t7 = l81_2 k (L81_2 k j) out t5 t6 t7 := iter_succ _ _ _ _
noncomputable def S81 (k : Nat) (l_ : List (Int × Int × Int × Int)) : Option (((List (Int × Int × Int × Bool)) × Unit) × Unit) :=
  L81_2 k k ([] : List (Int × Int × Int × Bool)) l_ (l_.length : Int) 0
noncomputable def E81 : Env := tab.env (lk []) (hintL [(2, 2)])
theorem E81_ok : EnvOK Try.prog E81 := envOK_of tabOK _ _ (fun f F h => by cases h)
noncomputable def B81 (k : Nat) : Tbl (RD R81 × MD P81) := (.loop 2 c81_L2 (b81_2 k) (fun g => .nil) .nil)
noncomputable def F81 : Fn := ⟨P81, R81, fun k x => S81 k x.1⟩
theorem ok81 : FnOK Try.prog 81 F81 := evalF_ok (E := E81) (T := B81) E81_ok mix Try.func81 rfl (by kernel_rfl) (by kernel_rfl) (fun k => by kernel_rfl) (fun k x => by kernel_rfl)
/-! ### 82: 82 (foliot/shape.piece).has -/
noncomputable abbrev P82 : List PT := [.val ⟨true, (.pair (.int .i64) (.pair (.int .i64) (.pair (.int .i64) .bool))), false⟩, .val ⟨false, (.int .i64), false⟩]
noncomputable abbrev R82 : List RT := [.val ⟨false, .bool, true⟩]
noncomputable def S82 (k : Nat) (p : Int × Int × Int × Bool) (i : Int) : Option ((Bool × Unit) × Unit) :=
  (bif decide (i ≥ p.1) then
    some ((decide (i ≤ p.2.1), ()), ())
  else
    some ((false, ()), ()))
noncomputable def E82 : Env := tab.env (lk []) (hintL [])
theorem E82_ok : EnvOK Try.prog E82 := envOK_of tabOK _ _ (fun f F h => by cases h)
noncomputable def B82 (k : Nat) : Tbl (RD R82 × MD P82) := .nil
noncomputable def F82 : Fn := ⟨P82, R82, fun k x => S82 k x.1 x.2.1⟩
theorem ok82 : FnOK Try.prog 82 F82 := evalF_ok (E := E82) (T := B82) E82_ok mix Try.func82 rfl (by kernel_rfl) (by kernel_rfl) (fun k => by kernel_rfl) (fun k x => by kernel_rfl)
/-! ### 83: 83 (foliot/shape.piece).within -/
noncomputable abbrev P83 : List PT := [.val ⟨true, (.pair (.int .i64) (.pair (.int .i64) (.pair (.int .i64) .bool))), false⟩, .val ⟨true, (.pair (.int .i64) (.pair (.int .i64) (.pair (.int .i64) .bool))), false⟩]
noncomputable abbrev R83 : List RT := [.val ⟨false, .bool, true⟩]
noncomputable def S83 (k : Nat) (p : Int × Int × Int × Bool) (q_ : Int × Int × Int × Bool) : Option ((Bool × Unit) × Unit) :=
  (S82 k q_ p.1).bind fun q0 =>
  (bif q0.1.1 then
    (S82 k q_ p.2.1).bind fun q1 =>
    some ((q1.1.1, ()), ())
  else
    some ((false, ()), ()))
noncomputable def E83 : Env := tab.env (lk [(82, F82)]) (hintL [])
theorem E83_ok : EnvOK Try.prog E83 := envOK_of tabOK _ _ (allFn_lk (l := [(82, F82)]) ⟨ok82, trivial⟩)
noncomputable def B83 (k : Nat) : Tbl (RD R83 × MD P83) := .nil
noncomputable def F83 : Fn := ⟨P83, R83, fun k x => S83 k x.1 x.2.1⟩
theorem ok83 : FnOK Try.prog 83 F83 := evalF_ok (E := E83) (T := B83) E83_ok mix Try.func83 rfl (by kernel_rfl) (by kernel_rfl) (fun k => by kernel_rfl) (fun k x => by kernel_rfl)
/-! ### 84: 84 (foliot/shape.piece).apart -/
noncomputable abbrev P84 : List PT := [.val ⟨true, (.pair (.int .i64) (.pair (.int .i64) (.pair (.int .i64) .bool))), false⟩, .val ⟨true, (.pair (.int .i64) (.pair (.int .i64) (.pair (.int .i64) .bool))), false⟩]
noncomputable abbrev R84 : List RT := [.val ⟨false, .bool, true⟩]
noncomputable def S84 (k : Nat) (p : Int × Int × Int × Bool) (q_ : Int × Int × Int × Bool) : Option ((Bool × Unit) × Unit) :=
  (bif decide (p.2.1 < q_.1) then
    some ((true, ()), ())
  else
    some ((decide (q_.2.1 < p.1), ()), ()))
noncomputable def E84 : Env := tab.env (lk []) (hintL [])
theorem E84_ok : EnvOK Try.prog E84 := envOK_of tabOK _ _ (fun f F h => by cases h)
noncomputable def B84 (k : Nat) : Tbl (RD R84 × MD P84) := .nil
noncomputable def F84 : Fn := ⟨P84, R84, fun k x => S84 k x.1 x.2.1⟩
theorem ok84 : FnOK Try.prog 84 F84 := evalF_ok (E := E84) (T := B84) E84_ok mix Try.func84 rfl (by kernel_rfl) (by kernel_rfl) (fun k => by kernel_rfl) (fun k x => by kernel_rfl)
/-! ### 85: 85 foliot/shape.nested$1 -/
noncomputable abbrev P85 : List PT := [.val ⟨false, (.int .i64), false⟩]
noncomputable abbrev R85 : List RT := [.val ⟨false, .bool, true⟩]
noncomputable def S85 (k : Nat) (n : Int) : Option ((Bool × Unit) × Unit) :=
  some ((decide (n > 2), ()), ())
noncomputable def E85 : Env := tab.env (lk []) (hintL [])
theorem E85_ok : EnvOK Try.prog E85 := envOK_of tabOK _ _ (fun f F h => by cases h)
noncomputable def B85 (k : Nat) : Tbl (RD R85 × MD P85) := .nil
noncomputable def F85 : Fn := ⟨P85, R85, fun k x => S85 k x.1⟩
theorem ok85 : FnOK Try.prog 85 F85 := evalF_ok (E := E85) (T := B85) E85_ok mix Try.func85 rfl (by kernel_rfl) (by kernel_rfl) (fun k => by kernel_rfl) (fun k x => by kernel_rfl)
/-! ### 86: 86 slices.IndexFunc[[]int,int] -/
noncomputable abbrev P86 : List PT := [.val ⟨false, (.sl 3 (.int .i64)), false⟩, .pv (.clo 85 [])]
noncomputable abbrev R86 : List RT := [.val ⟨false, (.int .i64), true⟩]
noncomputable abbrev c86_L2 : Cut := ⟨[0, 1, 7, 8], [.cell (.sl 3 (.int .i64)), .clo 85 [], .cell (.int .i64), .cell (.int .i64)], [], 19⟩
noncomputable def l86_2 (k : Nat) (g2 : (List Int) → Int → Int → Option ((Int × Unit) × Unit)) (s1 : List Int) (t7 : Int) (t8 : Int) : Option ((Int × Unit) × Unit) :=
  (bif decide (t8 < t7) then
    ix s1 t8 <|
    (S85 k (rd s1 t8 0)).bind fun q0 =>
    (bif q0.1.1 then
      some ((t8, ()), ())
    else
      g2 s1 t7 (IntKind.i64.wrap (t8 + 1)))
  else
    some (((-1), ()), ()))
noncomputable def b86_2 (k : Nat) (g : ((Unit) × (List Int) × Unit × Int × Int × Unit) → Option ((Int × Unit) × Unit)) (d : (Unit) × (List Int) × Unit × Int × Int × Unit) : Option ((Int × Unit) × Unit) := l86_2 k (fun s1 t7 t8 => g ((), s1, (), t7, t8, ())) d.2.1 d.2.2.2.1 d.2.2.2.2.1
noncomputable def L86_2 (k : Nat) (j : Nat) (s1 : List Int) (t7 : Int) (t8 : Int) : Option ((Int × Unit) × Unit) := iter (R := (Int × Unit) × Unit) c86_L2 (b86_2 k) j ((), s1, (), t7, t8, ())
theorem L86_2_s (k : Nat) (j : Nat) (s1 : List Int) (t7 : Int) (t8 : Int) : L86_2 k (j + 1) s1 t7 t8 = l86_2 k (L86_2 k j) s1 t7 t8 := iter_succ _ _ _ _
noncomputable def S86 (k : Nat) (s : List Int) : Option ((Int × Unit) × Unit) :=
  L86_2 k k s (s.length : Int) 0
noncomputable def E86 : Env := tab.env (lk [(85, F85)]) (hintL [])
theorem E86_ok : EnvOK Try.prog E86 := envOK_of tabOK _ _ (allFn_lk (l := [(85, F85)]) ⟨ok85, trivial⟩)
noncomputable def B86 (k : Nat) : Tbl (RD R86 × MD P86) := (.loop 2 c86_L2 (b86_2 k) (fun g => .nil) .nil)
noncomputable def F86 : Fn := ⟨P86, R86, fun k x => S86 k x.1⟩
theorem ok86 : FnOK Try.prog 86 F86 := evalF_ok (E := E86) (T := B86) E86_ok mix Try.func86 rfl (by kernel_rfl) (by kernel_rfl) (fun k => by kernel_rfl) (fun k x => by kernel_rfl)
/-! ### 73: 73 slices.ContainsFunc[[]int,int] -/
noncomputable abbrev P73 : List PT := [.val ⟨false, (.sl 3 (.int .i64)), false⟩, .pv (.clo 85 [])]
noncomputable abbrev R73 : List RT := [.val ⟨false, .bool, true⟩]
noncomputable def S73 (k : Nat) (s : List Int) : Option ((Bool × Unit) × Unit) :=
  (S86 k s).bind fun q0 =>
  some ((decide (q0.1.1 ≥ 0), ()), ())
noncomputable def E73 : Env := tab.env (lk [(86, F86)]) (hintL [])
theorem E73_ok : EnvOK Try.prog E73 := envOK_of tabOK _ _ (allFn_lk (l := [(86, F86)]) ⟨ok86, trivial⟩)
noncomputable def B73 (k : Nat) : Tbl (RD R73 × MD P73) := .nil
noncomputable def F73 : Fn := ⟨P73, R73, fun k x => S73 k x.1⟩
theorem ok73 : FnOK Try.prog 73 F73 := evalF_ok (E := E73) (T := B73) E73_ok mix Try.func73 rfl (by kernel_rfl) (by kernel_rfl) (fun k => by kernel_rfl) (fun k x => by kernel_rfl)
/-! ### 71: 71 foliot/shape.nested -/
noncomputable abbrev P71 : List PT := [.val ⟨false, (.sl 48 (.pair (.int .i64) (.pair (.int .i64) (.pair (.int .i64) (.int .i64))))), false⟩]
noncomputable abbrev R71 : List RT := [.val ⟨false, .bool, true⟩]
noncomputable abbrev c71_L15 : Cut := ⟨[0, 3, 4, 6, 9, 15, 16, 17], [.cell (.sl 48 (.pair (.int .i64) (.pair (.int .i64) (.pair (.int .i64) (.int .i64))))), .cell (.sl 117 (.pair (.int .i64) (.pair (.int .i64) (.pair (.int .i64) .bool)))), .own 3 (.int .i64), .box 117 [.cell (.int .i64), .cell (.int .i64), .cell (.int .i64), .cell .bool], .cell (.int .i64), .cell (.sl 117 (.pair (.int .i64) (.pair (.int .i64) (.pair (.int .i64) .bool)))), .cell (.int .i64), .cell (.int .i64)], [], 84⟩
noncomputable def l71_15 (k : Nat) (g4 : (List (Int × Int × Int × Int)) → (List (Int × Int × Int × Bool)) → (List Int) → (List (Int × Int × Int × Bool)) → Int → Int → Option ((Bool × Unit) × Unit)) (g15 : (List (Int × Int × Int × Int)) → (List (Int × Int × Int × Bool)) → (List Int) → Int → Int → Int → Bool → Int → (List (Int × Int × Int × Bool)) → Int → Int → Option ((Bool × Unit) × Unit)) (l_3 : List (Int × Int × Int × Int)) (all2 : List (Int × Int × Int × Bool)) (around2 : List Int) (p4 : Int) (p5 : Int) (p6 : Int) (p7 : Bool) (i : Int) (t15_2 : List (Int × Int × Int × Bool)) (t16_2 : Int) (t17_2 : Int) : Option ((Bool × Unit) × Unit) :=
  (bif p7 then
    (bif decide (i ≤ p5) then
      ix around2 i <|
      ix around2 i <|
      g15 l_3 all2 (upd around2 i (IntKind.i64.wrap ((rd around2 i 0) + 1))) p4 p5 p6 p7 (IntKind.i64.wrap (i + 1)) t15_2 t16_2 t17_2
    else
      g4 l_3 all2 around2 t15_2 t16_2 (IntKind.i64.wrap (t17_2 + 1)))
  else
    g4 l_3 all2 around2 t15_2 t16_2 (IntKind.i64.wrap (t17_2 + 1)))
noncomputable def b71_15 (k : Nat) (g4 : (List (Int × Int × Int × Int)) → (List (Int × Int × Int × Bool)) → (List Int) → (List (Int × Int × Int × Bool)) → Int → Int → Option ((Bool × Unit) × Unit)) (g : ((Unit) × (List (Int × Int × Int × Int)) × (List (Int × Int × Int × Bool)) × (List Int) × (Int × Int × Int × Bool × Unit) × Int × (List (Int × Int × Int × Bool)) × Int × Int × Unit) → Option ((Bool × Unit) × Unit)) (d : (Unit) × (List (Int × Int × Int × Int)) × (List (Int × Int × Int × Bool)) × (List Int) × (Int × Int × Int × Bool × Unit) × Int × (List (Int × Int × Int × Bool)) × Int × Int × Unit) : Option ((Bool × Unit) × Unit) := l71_15 k g4 (fun l_3 all2 around2 p4 p5 p6 p7 i t15_2 t16_2 t17_2 => g ((), l_3, all2, around2, (p4, p5, p6, p7, ()), i, t15_2, t16_2, t17_2, ())) d.2.1 d.2.2.1 d.2.2.2.1 d.2.2.2.2.1.1 d.2.2.2.2.1.2.1 d.2.2.2.2.1.2.2.1 d.2.2.2.2.1.2.2.2.1 d.2.2.2.2.2.1 d.2.2.2.2.2.2.1 d.2.2.2.2.2.2.2.1 d.2.2.2.2.2.2.2.2.1
noncomputable def L71_15 (k : Nat) (g4 : (List (Int × Int × Int × Int)) → (List (Int × Int × Int × Bool)) → (List Int) → (List (Int × Int × Int × Bool)) → Int → Int → Option ((Bool × Unit) × Unit)) (j : Nat) (l_3 : List (Int × Int × Int × Int)) (all2 : List (Int × Int × Int × Bool)) (around2 : List Int) (p4 : Int) (p5 : Int) (p6 : Int) (p7 : Bool) (i : Int) (t15_2 : List (Int × Int × Int × Bool)) (t16_2 : Int) (t17_2 : Int) : Option ((Bool × Unit) × Unit) := iter (R := (Bool × Unit) × Unit) c71_L15 (b71_15 k g4) j ((), l_3, all2, around2, (p4, p5, p6, p7, ()), i, t15_2, t16_2, t17_2, ())
theorem L71_15_s (k : Nat) (g4 : (List (Int × Int × Int × Int)) → (List (Int × Int × Int × Bool)) → (List Int) → (List (Int × Int × Int × Bool)) → Int → Int → Option ((Bool × Unit) × Unit)) (j : Nat) (l_3 : List (Int × Int × Int × Int)) (all2 : List (Int × Int × Int × Bool)) (around2 : List Int) (p4 : Int) (p5 : Int) (p6 : Int) (p7 : Bool) (i : Int) (t15_2 : List (Int × Int × Int × Bool)) (t16_2 : Int) (t17_2 : Int) : L71_15 k g4 (j + 1) l_3 all2 around2 p4 p5 p6 p7 i t15_2 t16_2 t17_2 = l71_15 k g4 (L71_15 k g4 j) l_3 all2 around2 p4 p5 p6 p7 i t15_2 t16_2 t17_2 := iter_succ _ _ _ _
noncomputable abbrev c71_L9 : Cut := ⟨[0, 3, 4, 6, 15, 16, 17, 27, 28, 29], [.cell (.sl 48 (.pair (.int .i64) (.pair (.int .i64) (.pair (.int .i64) (.int .i64))))), .cell (.sl 117 (.pair (.int .i64) (.pair (.int .i64) (.pair (.int .i64) .bool)))), .own 3 (.int .i64), .box 117 [.cell (.int .i64), .cell (.int .i64), .cell (.int .i64), .cell .bool], .cell (.sl 117 (.pair (.int .i64) (.pair (.int .i64) (.pair (.int .i64) .bool)))), .cell (.int .i64), .cell (.int .i64), .cell (.sl 117 (.pair (.int .i64) (.pair (.int .i64) (.pair (.int .i64) .bool)))), .cell (.int .i64), .cell (.int .i64)], [], 84⟩
noncomputable def l71_9 (k : Nat) (g4 : (List (Int × Int × Int × Int)) → (List (Int × Int × Int × Bool)) → (List Int) → (List (Int × Int × Int × Bool)) → Int → Int → Option ((Bool × Unit) × Unit)) (g9 : (List (Int × Int × Int × Int)) → (List (Int × Int × Int × Bool)) → (List Int) → Int → Int → Int → Bool → (List (Int × Int × Int × Bool)) → Int → Int → (List (Int × Int × Int × Bool)) → Int → Int → Option ((Bool × Unit) × Unit)) (l_2 : List (Int × Int × Int × Int)) (all1 : List (Int × Int × Int × Bool)) (around1 : List Int) (p : Int) (p1 : Int) (p2 : Int) (p3 : Bool) (t15_1 : List (Int × Int × Int × Bool)) (t16_1 : Int) (t17_1 : Int) (t27 : List (Int × Int × Int × Bool)) (t28 : Int) (t29 : Int) : Option ((Bool × Unit) × Unit) :=
  (bif decide (t29 < t28) then
    ix t27 t29 <|
    (S82 k (rd t27 t29 (0, 0, 0, false)) p2).bind fun q1 =>
    (bif q1.1.1 then
      (S83 k (p, p1, p2, p3) (rd t27 t29 (0, 0, 0, false))).bind fun q2 =>
      (bif !q2.1.1 then
        some ((false, ()), ())
      else
        (S84 k (p, p1, p2, p3) (rd t27 t29 (0, 0, 0, false))).bind fun q3 =>
        (bif !q3.1.1 then
          (S83 k (p, p1, p2, p3) (rd t27 t29 (0, 0, 0, false))).bind fun q4 =>
          (bif !q4.1.1 then
            (S83 k (rd t27 t29 (0, 0, 0, false)) (p, p1, p2, p3)).bind fun q5 =>
            (bif !q5.1.1 then
              some ((false, ()), ())
            else
              g9 l_2 all1 around1 p p1 p2 p3 t15_1 t16_1 t17_1 t27 t28 (IntKind.i64.wrap (t29 + 1)))
          else
            g9 l_2 all1 around1 p p1 p2 p3 t15_1 t16_1 t17_1 t27 t28 (IntKind.i64.wrap (t29 + 1)))
        else
          g9 l_2 all1 around1 p p1 p2 p3 t15_1 t16_1 t17_1 t27 t28 (IntKind.i64.wrap (t29 + 1))))
    else
      (S84 k (p, p1, p2, p3) (rd t27 t29 (0, 0, 0, false))).bind fun q6 =>
      (bif !q6.1.1 then
        (S83 k (p, p1, p2, p3) (rd t27 t29 (0, 0, 0, false))).bind fun q7 =>
        (bif !q7.1.1 then
          (S83 k (rd t27 t29 (0, 0, 0, false)) (p, p1, p2, p3)).bind fun q8 =>
          (bif !q8.1.1 then
            some ((false, ()), ())
          else
            g9 l_2 all1 around1 p p1 p2 p3 t15_1 t16_1 t17_1 t27 t28 (IntKind.i64.wrap (t29 + 1)))
        else
          g9 l_2 all1 around1 p p1 p2 p3 t15_1 t16_1 t17_1 t27 t28 (IntKind.i64.wrap (t29 + 1)))
      else
        g9 l_2 all1 around1 p p1 p2 p3 t15_1 t16_1 t17_1 t27 t28 (IntKind.i64.wrap (t29 + 1))))
  else
    L71_15 k g4 k l_2 all1 around1 p p1 p2 p3 p t15_1 t16_1 t17_1)
noncomputable def b71_9 (k : Nat) (g4 : (List (Int × Int × Int × Int)) → (List (Int × Int × Int × Bool)) → (List Int) → (List (Int × Int × Int × Bool)) → Int → Int → Option ((Bool × Unit) × Unit)) (g : ((Unit) × (List (Int × Int × Int × Int)) × (List (Int × Int × Int × Bool)) × (List Int) × (Int × Int × Int × Bool × Unit) × (List (Int × Int × Int × Bool)) × Int × Int × (List (Int × Int × Int × Bool)) × Int × Int × Unit) → Option ((Bool × Unit) × Unit)) (d : (Unit) × (List (Int × Int × Int × Int)) × (List (Int × Int × Int × Bool)) × (List Int) × (Int × Int × Int × Bool × Unit) × (List (Int × Int × Int × Bool)) × Int × Int × (List (Int × Int × Int × Bool)) × Int × Int × Unit) : Option ((Bool × Unit) × Unit) := l71_9 k g4 (fun l_2 all1 around1 p p1 p2 p3 t15_1 t16_1 t17_1 t27 t28 t29 => g ((), l_2, all1, around1, (p, p1, p2, p3, ()), t15_1, t16_1, t17_1, t27, t28, t29, ())) d.2.1 d.2.2.1 d.2.2.2.1 d.2.2.2.2.1.1 d.2.2.2.2.1.2.1 d.2.2.2.2.1.2.2.1 d.2.2.2.2.1.2.2.2.1 d.2.2.2.2.2.1 d.2.2.2.2.2.2.1 d.2.2.2.2.2.2.2.1 d.2.2.2.2.2.2.2.2.1 d.2.2.2.2.2.2.2.2.2.1 d.2.2.2.2.2.2.2.2.2.2.1
noncomputable def L71_9 (k : Nat) (g4 : (List (Int × Int × Int × Int)) → (List (Int × Int × Int × Bool)) → (List Int) → (List (Int × Int × Int × Bool)) → Int → Int → Option ((Bool × Unit) × Unit)) (j : Nat) (l_2 : List (Int × Int × Int × Int)) (all1 : List (Int × Int × Int × Bool)) (around1 : List Int) (p : Int) (p1 : Int) (p2 : Int) (p3 : Bool) (t15_1 : List (Int × Int × Int × Bool)) (t16_1 : Int) (t17_1 : Int) (t27 : List (Int × Int × Int × Bool)) (t28 : Int) (t29 : Int) : Option ((Bool × Unit) × Unit) := iter (R := (Bool × Unit) × Unit) c71_L9 (b71_9 k g4) j ((), l_2, all1, around1, (p, p1, p2, p3, ()), t15_1, t16_1, t17_1, t27, t28, t29, ())
theorem L71_9_s (k : Nat) (g4 : (List (Int × Int × Int × Int)) → (List (Int × Int × Int × Bool)) → (List Int) → (List (Int × Int × Int × Bool)) → Int → Int → Option ((Bool × Unit) × Unit)) (j : Nat) (l_2 : List (Int × Int × Int × Int)) (all1 : List (Int × Int × Int × Bool)) (around1 : List Int) (p : Int) (p1 : Int) (p2 : Int) (p3 : Bool) (t15_1 : List (Int × Int × Int × Bool)) (t16_1 : Int) (t17_1 : Int) (t27 : List (Int × Int × Int × Bool)) (t28 : Int) (t29 : Int) : L71_9 k g4 (j + 1) l_2 all1 around1 p p1 p2 p3 t15_1 t16_1 t17_1 t27 t28 t29 = l71_9 k g4 (L71_9 k g4 j) l_2 all1 around1 p p1 p2 p3 t15_1 t16_1 t17_1 t27 t28 t29 := iter_succ _ _ _ _
noncomputable abbrev c71_L4 : Cut := ⟨[0, 3, 4, 15, 16, 17], [.cell (.sl 48 (.pair (.int .i64) (.pair (.int .i64) (.pair (.int .i64) (.int .i64))))), .cell (.sl 117 (.pair (.int .i64) (.pair (.int .i64) (.pair (.int .i64) .bool)))), .own 3 (.int .i64), .cell (.sl 117 (.pair (.int .i64) (.pair (.int .i64) (.pair (.int .i64) .bool)))), .cell (.int .i64), .cell (.int .i64)], [], 84⟩
noncomputable def l71_4 (k : Nat) (g4 : (List (Int × Int × Int × Int)) → (List (Int × Int × Int × Bool)) → (List Int) → (List (Int × Int × Int × Bool)) → Int → Int → Option ((Bool × Unit) × Unit)) (l_1 : List (Int × Int × Int × Int)) (all : List (Int × Int × Int × Bool)) (around : List Int) (t15 : List (Int × Int × Int × Bool)) (t16 : Int) (t17 : Int) : Option ((Bool × Unit) × Unit) :=
  (bif decide (t17 < t16) then
    ix t15 t17 <|
    (bif decide ((rd t15 t17 (0, 0, 0, false)).2.1 ≥ (IntKind.i64.wrap ((l_1.length : Int) - 1))) then
      some ((false, ()), ())
    else
      L71_9 k g4 k l_1 all around (rd t15 t17 (0, 0, 0, false)).1 (rd t15 t17 (0, 0, 0, false)).2.1 (rd t15 t17 (0, 0, 0, false)).2.2.1 (rd t15 t17 (0, 0, 0, false)).2.2.2 t15 t16 t17 all (all.length : Int) 0)
  else
    (S73 k around).bind fun q9 =>
    some ((!q9.1.1, ()), ()))
noncomputable def b71_4 (k : Nat) (g : ((Unit) × (List (Int × Int × Int × Int)) × (List (Int × Int × Int × Bool)) × (List Int) × (List (Int × Int × Int × Bool)) × Int × Int × Unit) → Option ((Bool × Unit) × Unit)) (d : (Unit) × (List (Int × Int × Int × Int)) × (List (Int × Int × Int × Bool)) × (List Int) × (List (Int × Int × Int × Bool)) × Int × Int × Unit) : Option ((Bool × Unit) × Unit) := l71_4 k (fun l_1 all around t15 t16 t17 => g ((), l_1, all, around, t15, t16, t17, ())) d.2.1 d.2.2.1 d.2.2.2.1 d.2.2.2.2.1 d.2.2.2.2.2.1 d.2.2.2.2.2.2.1
noncomputable def L71_4 (k : Nat) (j : Nat) (l_1 : List (Int × Int × Int × Int)) (all : List (Int × Int × Int × Bool)) (around : List Int) (t15 : List (Int × Int × Int × Bool)) (t16 : Int) (t17 : Int) : Option ((Bool × Unit) × Unit) := iter (R := (Bool × Unit) × Unit) c71_L4 (b71_4 k) j ((), l_1, all, around, t15, t16, t17, ())
theorem L71_4_s (k : Nat) (j : Nat) (l_1 : List (Int × Int × Int × Int)) (all : List (Int × Int × Int × Bool)) (around : List Int) (t15 : List (Int × Int × Int × Bool)) (t16 : Int) (t17 : Int) : L71_4 k (j + 1) l_1 all around t15 t16 t17 = l71_4 k (L71_4 k j) l_1 all around t15 t16 t17 := iter_succ _ _ _ _
noncomputable def S71 (k : Nat) (l_ : List (Int × Int × Int × Int)) : Option ((Bool × Unit) × Unit) :=
  (S81 k l_).bind fun q0 =>
  mk (l_.length : Int) (l_.length : Int) 8 <|
  L71_4 k k l_ q0.1.1 (List.replicate (l_.length : Int).toNat (0 : Int)) q0.1.1 (q0.1.1.length : Int) 0
noncomputable def E71 : Env := tab.env (lk [(73, F73), (81, F81), (82, F82), (83, F83), (84, F84)]) (hintL [])
theorem E71_ok : EnvOK Try.prog E71 := envOK_of tabOK _ _ (allFn_lk (l := [(73, F73), (81, F81), (82, F82), (83, F83), (84, F84)]) ⟨ok73, ok81, ok82, ok83, ok84, trivial⟩)
noncomputable def B71 (k : Nat) : Tbl (RD R71 × MD P71) := (.loop 4 c71_L4 (b71_4 k) (fun g => (fun (g4 : (List (Int × Int × Int × Int)) → (List (Int × Int × Int × Bool)) → (List Int) → (List (Int × Int × Int × Bool)) → Int → Int → Option ((Bool × Unit) × Unit)) => (.loop 15 c71_L15 (b71_15 k g4) (fun g => .nil) (.loop 9 c71_L9 (b71_9 k g4) (fun g => .nil) .nil))) (fun l_1 all around t15 t16 t17 => g ((), l_1, all, around, t15, t16, t17, ()))) .nil)
noncomputable def F71 : Fn := ⟨P71, R71, fun k x => S71 k x.1⟩
theorem ok71 : FnOK Try.prog 71 F71 := evalF_ok (E := E71) (T := B71) E71_ok mix Try.func71 rfl (by kernel_rfl) (by kernel_rfl) (fun k => by kernel_rfl) (fun k x => by kernel_rfl)
/-! ### 72: 72 foliot/shape.ins -/
noncomputable abbrev P72 : List PT := [.val ⟨false, (.sl 48 (.pair (.int .i64) (.pair (.int .i64) (.pair (.int .i64) (.int .i64))))), false⟩]
noncomputable abbrev R72 : List RT := [.val ⟨false, (.sl 104 (arrT 24 .bool)), true⟩]
noncomputable abbrev c72_L6 : Cut := ⟨[0, 3, 4, 5, 11, 12, 13, 19, 20], [.cell (.sl 48 (.pair (.int .i64) (.pair (.int .i64) (.pair (.int .i64) (.int .i64))))), .own 104 (arrT 24 .bool), .cell (.int .i64), .box 117 [.cell (.int .i64), .cell (.int .i64), .cell (.int .i64), .cell .bool], .own 117 (.pair (.int .i64) (.pair (.int .i64) (.pair (.int .i64) .bool))), .cell (.int .i64), .cell (.int .i64), .cell (.int .i64), .cell (.int .i64)], [], 38⟩
noncomputable def l72_6 (k : Nat) (g3 : (List (Int × Int × Int × Int)) → (List (PN Bool 24)) → (List (Int × Int × Int × Bool)) → Int → Int → Option (((List (PN Bool 24)) × Unit) × Unit)) (g6 : (List (Int × Int × Int × Int)) → (List (PN Bool 24)) → Int → Int → Int → Int → Bool → (List (Int × Int × Int × Bool)) → Int → Int → Int → Int → Option (((List (PN Bool 24)) × Unit) × Unit)) (l_2 : List (Int × Int × Int × Int)) (out1 : List (PN Bool 24)) (n : Int) (p : Int) (p1 : Int) (p2 : Int) (p3 : Bool) (t11_1 : List (Int × Int × Int × Bool)) (t12_1 : Int) (t13_1 : Int) (t19 : Int) (t20 : Int) : Option (((List (PN Bool 24)) × Unit) × Unit) :=
  (bif decide (t20 < t19) then
    (bif decide (n < 24) then
      (S82 k (p, p1, p2, p3) t20).bind fun q1 =>
      (bif q1.1.1 then
        ix out1 t20 <|
        ax 24 n <|
        g6 l_2 (upd out1 t20 (aset (α := Bool) 24 (rd out1 t20 (prep (α := Bool) 24 false)) n true)) n p p1 p2 p3 t11_1 t12_1 t13_1 t19 (IntKind.i64.wrap (t20 + 1))
      else
        g6 l_2 out1 n p p1 p2 p3 t11_1 t12_1 t13_1 t19 (IntKind.i64.wrap (t20 + 1)))
    else
      g6 l_2 out1 n p p1 p2 p3 t11_1 t12_1 t13_1 t19 (IntKind.i64.wrap (t20 + 1)))
  else
    g3 l_2 out1 t11_1 t12_1 (IntKind.i64.wrap (t13_1 + 1)))
noncomputable def b72_6 (k : Nat) (g3 : (List (Int × Int × Int × Int)) → (List (PN Bool 24)) → (List (Int × Int × Int × Bool)) → Int → Int → Option (((List (PN Bool 24)) × Unit) × Unit)) (g : ((Unit) × (List (Int × Int × Int × Int)) × (List (PN Bool 24)) × Int × (Int × Int × Int × Bool × Unit) × (List (Int × Int × Int × Bool)) × Int × Int × Int × Int × Unit) → Option (((List (PN Bool 24)) × Unit) × Unit)) (d : (Unit) × (List (Int × Int × Int × Int)) × (List (PN Bool 24)) × Int × (Int × Int × Int × Bool × Unit) × (List (Int × Int × Int × Bool)) × Int × Int × Int × Int × Unit) : Option (((List (PN Bool 24)) × Unit) × Unit) := l72_6 k g3 (fun l_2 out1 n p p1 p2 p3 t11_1 t12_1 t13_1 t19 t20 => g ((), l_2, out1, n, (p, p1, p2, p3, ()), t11_1, t12_1, t13_1, t19, t20, ())) d.2.1 d.2.2.1 d.2.2.2.1 d.2.2.2.2.1.1 d.2.2.2.2.1.2.1 d.2.2.2.2.1.2.2.1 d.2.2.2.2.1.2.2.2.1 d.2.2.2.2.2.1 d.2.2.2.2.2.2.1 d.2.2.2.2.2.2.2.1 d.2.2.2.2.2.2.2.2.1 d.2.2.2.2.2.2.2.2.2.1
noncomputable def L72_6 (k : Nat) (g3 : (List (Int × Int × Int × Int)) → (List (PN Bool 24)) → (List (Int × Int × Int × Bool)) → Int → Int → Option (((List (PN Bool 24)) × Unit) × Unit)) (j : Nat) (l_2 : List (Int × Int × Int × Int)) (out1 : List (PN Bool 24)) (n : Int) (p : Int) (p1 : Int) (p2 : Int) (p3 : Bool) (t11_1 : List (Int × Int × Int × Bool)) (t12_1 : Int) (t13_1 : Int) (t19 : Int) (t20 : Int) : Option (((List (PN Bool 24)) × Unit) × Unit) := iter (R := ((List (PN Bool 24)) × Unit) × Unit) c72_L6 (b72_6 k g3) j ((), l_2, out1, n, (p, p1, p2, p3, ()), t11_1, t12_1, t13_1, t19, t20, ())
theorem L72_6_s (k : Nat) (g3 : (List (Int × Int × Int × Int)) → (List (PN Bool 24)) → (List (Int × Int × Int × Bool)) → Int → Int → Option (((List (PN Bool 24)) × Unit) × Unit)) (j : Nat) (l_2 : List (Int × Int × Int × Int)) (out1 : List (PN Bool 24)) (n : Int) (p : Int) (p1 : Int) (p2 : Int) (p3 : Bool) (t11_1 : List (Int × Int × Int × Bool)) (t12_1 : Int) (t13_1 : Int) (t19 : Int) (t20 : Int) : L72_6 k g3 (j + 1) l_2 out1 n p p1 p2 p3 t11_1 t12_1 t13_1 t19 t20 = l72_6 k g3 (L72_6 k g3 j) l_2 out1 n p p1 p2 p3 t11_1 t12_1 t13_1 t19 t20 := iter_succ _ _ _ _
noncomputable abbrev c72_L3 : Cut := ⟨[0, 3, 11, 12, 13], [.cell (.sl 48 (.pair (.int .i64) (.pair (.int .i64) (.pair (.int .i64) (.int .i64))))), .own 104 (arrT 24 .bool), .own 117 (.pair (.int .i64) (.pair (.int .i64) (.pair (.int .i64) .bool))), .cell (.int .i64), .cell (.int .i64)], [], 38⟩
noncomputable def l72_3 (k : Nat) (g3 : (List (Int × Int × Int × Int)) → (List (PN Bool 24)) → (List (Int × Int × Int × Bool)) → Int → Int → Option (((List (PN Bool 24)) × Unit) × Unit)) (l_1 : List (Int × Int × Int × Int)) (out : List (PN Bool 24)) (t11 : List (Int × Int × Int × Bool)) (t12 : Int) (t13 : Int) : Option (((List (PN Bool 24)) × Unit) × Unit) :=
  (bif decide (t13 < t12) then
    ix t11 t13 <|
    L72_6 k g3 k l_1 out t13 (rd t11 t13 (0, 0, 0, false)).1 (rd t11 t13 (0, 0, 0, false)).2.1 (rd t11 t13 (0, 0, 0, false)).2.2.1 (rd t11 t13 (0, 0, 0, false)).2.2.2 t11 t12 t13 (l_1.length : Int) 0
  else
    some ((out, ()), ()))
noncomputable def b72_3 (k : Nat) (g : ((Unit) × (List (Int × Int × Int × Int)) × (List (PN Bool 24)) × (List (Int × Int × Int × Bool)) × Int × Int × Unit) → Option (((List (PN Bool 24)) × Unit) × Unit)) (d : (Unit) × (List (Int × Int × Int × Int)) × (List (PN Bool 24)) × (List (Int × Int × Int × Bool)) × Int × Int × Unit) : Option (((List (PN Bool 24)) × Unit) × Unit) := l72_3 k (fun l_1 out t11 t12 t13 => g ((), l_1, out, t11, t12, t13, ())) d.2.1 d.2.2.1 d.2.2.2.1 d.2.2.2.2.1 d.2.2.2.2.2.1
noncomputable def L72_3 (k : Nat) (j : Nat) (l_1 : List (Int × Int × Int × Int)) (out : List (PN Bool 24)) (t11 : List (Int × Int × Int × Bool)) (t12 : Int) (t13 : Int) : Option (((List (PN Bool 24)) × Unit) × Unit) := iter (R := ((List (PN Bool 24)) × Unit) × Unit) c72_L3 (b72_3 k) j ((), l_1, out, t11, t12, t13, ())
theorem L72_3_s (k : Nat) (j : Nat) (l_1 : List (Int × Int × Int × Int)) (out : List (PN Bool 24)) (t11 : List (Int × Int × Int × Bool)) (t12 : Int) (t13 : Int) : L72_3 k (j + 1) l_1 out t11 t12 t13 = l72_3 k (L72_3 k j) l_1 out t11 t12 t13 := iter_succ _ _ _ _
noncomputable def S72 (k : Nat) (l_ : List (Int × Int × Int × Int)) : Option (((List (PN Bool 24)) × Unit) × Unit) :=
  mk (l_.length : Int) (l_.length : Int) 24 <|
  (S81 k l_).bind fun q0 =>
  L72_3 k k l_ (List.replicate (l_.length : Int).toNat (prep (α := Bool) 24 false : PN Bool 24)) q0.1.1 (q0.1.1.length : Int) 0
noncomputable def E72 : Env := tab.env (lk [(81, F81), (82, F82)]) (hintL [])
theorem E72_ok : EnvOK Try.prog E72 := envOK_of tabOK _ _ (allFn_lk (l := [(81, F81), (82, F82)]) ⟨ok81, ok82, trivial⟩)
noncomputable def B72 (k : Nat) : Tbl (RD R72 × MD P72) := (.loop 3 c72_L3 (b72_3 k) (fun g => (fun (g3 : (List (Int × Int × Int × Int)) → (List (PN Bool 24)) → (List (Int × Int × Int × Bool)) → Int → Int → Option (((List (PN Bool 24)) × Unit) × Unit)) => (.loop 6 c72_L6 (b72_6 k g3) (fun g => .nil) .nil)) (fun l_1 out t11 t12 t13 => g ((), l_1, out, t11, t12, t13, ()))) .nil)
noncomputable def F72 : Fn := ⟨P72, R72, fun k x => S72 k x.1⟩
theorem ok72 : FnOK Try.prog 72 F72 := evalF_ok (E := E72) (T := B72) E72_ok mix Try.func72 rfl (by kernel_rfl) (by kernel_rfl) (fun k => by kernel_rfl) (fun k x => by kernel_rfl)
/-! ### 76: 76 foliot/shape.Pairs$1 -/
noncomputable abbrev P76 : List PT := [.val ⟨false, (.int .i64), false⟩, .pv (.ref (.sl 48 (.pair (.int .i64) (.pair (.int .i64) (.pair (.int .i64) (.int .i64)))))), .pv (.ref (.int .i64))]
noncomputable abbrev R76 : List RT := [.val ⟨false, .bool, true⟩]
noncomputable def S76 (k : Nat) (k_ : Int) (x1 : List (Int × Int × Int × Int)) (x2 : Int) : Option ((Bool × Unit) × Unit) :=
  ix x1 k_ <|
  ix x1 x2 <|
  some (((rd x1 k_ (0, 0, 0, 0)).2.1 == (rd x1 x2 (0, 0, 0, 0)).2.1, ()), ())
noncomputable def E76 : Env := tab.env (lk []) (hintL [])
theorem E76_ok : EnvOK Try.prog E76 := envOK_of tabOK _ _ (fun f F h => by cases h)
noncomputable def B76 (k : Nat) : Tbl (RD R76 × MD P76) := .nil
noncomputable def F76 : Fn := ⟨P76, R76, fun k x => S76 k x.1 x.2.1 x.2.2.1⟩
theorem ok76 : FnOK Try.prog 76 F76 := evalF_ok (E := E76) (T := B76) E76_ok mix Try.func76 rfl (by kernel_rfl) (by kernel_rfl) (fun k => by kernel_rfl) (fun k x => by kernel_rfl)
/-! ### 86a: 86 slices.IndexFunc[[]int,int] -/
noncomputable abbrev P86a : List PT := [.val ⟨false, (.sl 3 (.int .i64)), false⟩, .pv (.clo 76 [.ref (.sl 48 (.pair (.int .i64) (.pair (.int .i64) (.pair (.int .i64) (.int .i64))))), .ref (.int .i64)])]
noncomputable abbrev R86a : List RT := [.val ⟨false, (.int .i64), true⟩]
noncomputable abbrev c86a_L2 : Cut := ⟨[0, 1, 7, 8], [.cell (.sl 3 (.int .i64)), .clo 76 [.ref (.sl 48 (.pair (.int .i64) (.pair (.int .i64) (.pair (.int .i64) (.int .i64))))), .ref (.int .i64)], .cell (.int .i64), .cell (.int .i64)], [], 19⟩
noncomputable def l86a_2 (k : Nat) (g2 : (List Int) → (List (Int × Int × Int × Int)) → Int → Int → Int → Option ((Int × Unit) × Unit)) (s1 : List Int) (f2 : List (Int × Int × Int × Int)) (f3 : Int) (t7 : Int) (t8 : Int) : Option ((Int × Unit) × Unit) :=
  (bif decide (t8 < t7) then
    ix s1 t8 <|
    (S76 k (rd s1 t8 0) f2 f3).bind fun q0 =>
    (bif q0.1.1 then
      some ((t8, ()), ())
    else
      g2 s1 f2 f3 t7 (IntKind.i64.wrap (t8 + 1)))
  else
    some (((-1), ()), ()))
noncomputable def b86a_2 (k : Nat) (g : ((Unit) × (List Int) × ((List (Int × Int × Int × Int)) × Int × Unit) × Int × Int × Unit) → Option ((Int × Unit) × Unit)) (d : (Unit) × (List Int) × ((List (Int × Int × Int × Int)) × Int × Unit) × Int × Int × Unit) : Option ((Int × Unit) × Unit) := l86a_2 k (fun s1 f2 f3 t7 t8 => g ((), s1, (f2, f3, ()), t7, t8, ())) d.2.1 d.2.2.1.1 d.2.2.1.2.1 d.2.2.2.1 d.2.2.2.2.1
noncomputable def L86a_2 (k : Nat) (j : Nat) (s1 : List Int) (f2 : List (Int × Int × Int × Int)) (f3 : Int) (t7 : Int) (t8 : Int) : Option ((Int × Unit) × Unit) := iter (R := (Int × Unit) × Unit) c86a_L2 (b86a_2 k) j ((), s1, (f2, f3, ()), t7, t8, ())
theorem L86a_2_s (k : Nat) (j : Nat) (s1 : List Int) (f2 : List (Int × Int × Int × Int)) (f3 : Int) (t7 : Int) (t8 : Int) : L86a_2 k (j + 1) s1 f2 f3 t7 t8 = l86a_2 k (L86a_2 k j) s1 f2 f3 t7 t8 := iter_succ _ _ _ _
noncomputable def S86a (k : Nat) (s : List Int) (f : List (Int × Int × Int × Int)) (f1 : Int) : Option ((Int × Unit) × Unit) :=
  L86a_2 k k s f f1 (s.length : Int) 0
noncomputable def E86a : Env := tab.env (lk [(76, F76)]) (hintL [])
theorem E86a_ok : EnvOK Try.prog E86a := envOK_of tabOK _ _ (allFn_lk (l := [(76, F76)]) ⟨ok76, trivial⟩)
noncomputable def B86a (k : Nat) : Tbl (RD R86a × MD P86a) := (.loop 2 c86a_L2 (b86a_2 k) (fun g => .nil) .nil)
noncomputable def F86a : Fn := ⟨P86a, R86a, fun k x => S86a k x.1 x.2.1.1 x.2.1.2.1⟩
theorem ok86a : FnOK Try.prog 86 F86a := evalF_ok (E := E86a) (T := B86a) E86a_ok mix Try.func86 rfl (by kernel_rfl) (by kernel_rfl) (fun k => by kernel_rfl) (fun k x => by kernel_rfl)
/-! ### 73a: 73 slices.ContainsFunc[[]int,int] -/
noncomputable abbrev P73a : List PT := [.val ⟨false, (.sl 3 (.int .i64)), false⟩, .pv (.clo 76 [.ref (.sl 48 (.pair (.int .i64) (.pair (.int .i64) (.pair (.int .i64) (.int .i64))))), .ref (.int .i64)])]
noncomputable abbrev R73a : List RT := [.val ⟨false, .bool, true⟩]
noncomputable def S73a (k : Nat) (s : List Int) (f : List (Int × Int × Int × Int)) (f1 : Int) : Option ((Bool × Unit) × Unit) :=
  (S86a k s f f1).bind fun q0 =>
  some ((decide (q0.1.1 ≥ 0), ()), ())
noncomputable def E73a : Env := tab.env (lk [(86, F86a)]) (hintL [])
theorem E73a_ok : EnvOK Try.prog E73a := envOK_of tabOK _ _ (allFn_lk (l := [(86, F86a)]) ⟨ok86a, trivial⟩)
noncomputable def B73a (k : Nat) : Tbl (RD R73a × MD P73a) := .nil
noncomputable def F73a : Fn := ⟨P73a, R73a, fun k x => S73a k x.1 x.2.1.1 x.2.1.2.1⟩
theorem ok73a : FnOK Try.prog 73 F73a := evalF_ok (E := E73a) (T := B73a) E73a_ok mix Try.func73 rfl (by kernel_rfl) (by kernel_rfl) (fun k => by kernel_rfl) (fun k x => by kernel_rfl)
end Go.Proofs.Ytgmjmlgghdodoaa.Ab
