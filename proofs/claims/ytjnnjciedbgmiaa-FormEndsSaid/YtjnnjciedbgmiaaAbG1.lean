import Derived.Test.YtjnnjciedbgmiaaAbG0
/- Contracts, printed by this session's own program gen.py. -/
set_option linter.unusedVariables false
set_option linter.unusedSimpArgs false
set_option maxRecDepth 100000
namespace Go.Proofs.Ytjnnjciedbgmiaa.Ab
open Go.RowKit Go.Proofs.YtjnnjciedbgmiaaW.PrintWords
/-! ### 41: 41 foliot/shape.nested -/
noncomputable abbrev P41 : List PT := [.val ⟨false, (.sl 41 (.pair (.int .i64) (.pair (.int .i64) (.pair (.int .i64) (.int .i64))))), false⟩]
noncomputable abbrev R41 : List RT := [.val ⟨false, .bool, true⟩]
noncomputable abbrev c41_L15 : Cut := ⟨[0, 3, 4, 6, 9, 15, 16, 17], [.cell (.sl 41 (.pair (.int .i64) (.pair (.int .i64) (.pair (.int .i64) (.int .i64))))), .cell (.sl 91 (.pair (.int .i64) (.pair (.int .i64) (.pair (.int .i64) .bool)))), .own 3 (.int .i64), .box 91 [.cell (.int .i64), .cell (.int .i64), .cell (.int .i64), .cell .bool], .cell (.int .i64), .cell (.sl 91 (.pair (.int .i64) (.pair (.int .i64) (.pair (.int .i64) .bool)))), .cell (.int .i64), .cell (.int .i64)], [], 84⟩
noncomputable def l41_15 (k : Nat) (g4 : (List (Int × Int × Int × Int)) → (List (Int × Int × Int × Bool)) → (List Int) → (List (Int × Int × Int × Bool)) → Int → Int → Option ((Bool × Unit) × Unit)) (g15 : (List (Int × Int × Int × Int)) → (List (Int × Int × Int × Bool)) → (List Int) → Int → Int → Int → Bool → Int → (List (Int × Int × Int × Bool)) → Int → Int → Option ((Bool × Unit) × Unit)) (l_3 : List (Int × Int × Int × Int)) (all2 : List (Int × Int × Int × Bool)) (around2 : List Int) (p4 : Int) (p5 : Int) (p6 : Int) (p7 : Bool) (i : Int) (t15_2 : List (Int × Int × Int × Bool)) (t16_2 : Int) (t17_2 : Int) : Option ((Bool × Unit) × Unit) :=
  (bif p7 then
    (bif decide (i ≤ p5) then
      ix around2 i <|
      ix around2 i <|
      g15 l_3 all2 (upd around2 i (IntKind.i64.wrap ((rd around2 i 0) + 1))) p4 p5 p6 p7 (IntKind.i64.wrap (i + 1)) t15_2 t16_2 t17_2
    else
      g4 l_3 all2 around2 t15_2 t16_2 (IntKind.i64.wrap (t17_2 + 1)))
  else
    g4 l_3 all2 around2 t15_2 t16_2 (IntKind.i64.wrap (t17_2 + 1)))
noncomputable def b41_15 (k : Nat) (g4 : (List (Int × Int × Int × Int)) → (List (Int × Int × Int × Bool)) → (List Int) → (List (Int × Int × Int × Bool)) → Int → Int → Option ((Bool × Unit) × Unit)) (g : ((Unit) × (List (Int × Int × Int × Int)) × (List (Int × Int × Int × Bool)) × (List Int) × (Int × Int × Int × Bool × Unit) × Int × (List (Int × Int × Int × Bool)) × Int × Int × Unit) → Option ((Bool × Unit) × Unit)) (d : (Unit) × (List (Int × Int × Int × Int)) × (List (Int × Int × Int × Bool)) × (List Int) × (Int × Int × Int × Bool × Unit) × Int × (List (Int × Int × Int × Bool)) × Int × Int × Unit) : Option ((Bool × Unit) × Unit) := l41_15 k g4 (fun l_3 all2 around2 p4 p5 p6 p7 i t15_2 t16_2 t17_2 => g ((), l_3, all2, around2, (p4, p5, p6, p7, ()), i, t15_2, t16_2, t17_2, ())) d.2.1 d.2.2.1 d.2.2.2.1 d.2.2.2.2.1.1 d.2.2.2.2.1.2.1 d.2.2.2.2.1.2.2.1 d.2.2.2.2.1.2.2.2.1 d.2.2.2.2.2.1 d.2.2.2.2.2.2.1 d.2.2.2.2.2.2.2.1 d.2.2.2.2.2.2.2.2.1
noncomputable def L41_15 (k : Nat) (g4 : (List (Int × Int × Int × Int)) → (List (Int × Int × Int × Bool)) → (List Int) → (List (Int × Int × Int × Bool)) → Int → Int → Option ((Bool × Unit) × Unit)) (j : Nat) (l_3 : List (Int × Int × Int × Int)) (all2 : List (Int × Int × Int × Bool)) (around2 : List Int) (p4 : Int) (p5 : Int) (p6 : Int) (p7 : Bool) (i : Int) (t15_2 : List (Int × Int × Int × Bool)) (t16_2 : Int) (t17_2 : Int) : Option ((Bool × Unit) × Unit) := iter (R := (Bool × Unit) × Unit) c41_L15 (b41_15 k g4) j ((), l_3, all2, around2, (p4, p5, p6, p7, ()), i, t15_2, t16_2, t17_2, ())
theorem L41_15_s (k : Nat) (g4 : (List (Int × Int × Int × Int)) → (List (Int × Int × Int × Bool)) → (List Int) → (List (Int × Int × Int × Bool)) → Int → Int → Option ((Bool × Unit) × Unit)) (j : Nat) (l_3 : List (Int × Int × Int × Int)) (all2 : List (Int × Int × Int × Bool)) (around2 : List Int) (p4 : Int) (p5 : Int) (p6 : Int) (p7 : Bool) (i : Int) (t15_2 : List (Int × Int × Int × Bool)) (t16_2 : Int) (t17_2 : Int) : L41_15 k g4 (j + 1) l_3 all2 around2 p4 p5 p6 p7 i t15_2 t16_2 t17_2 = l41_15 k g4 (L41_15 k g4 j) l_3 all2 around2 p4 p5 p6 p7 i t15_2 t16_2 t17_2 := iter_succ _ _ _ _
noncomputable abbrev c41_L9 : Cut := ⟨[0, 3, 4, 6, 15, 16, 17, 27, 28, 29], [.cell (.sl 41 (.pair (.int .i64) (.pair (.int .i64) (.pair (.int .i64) (.int .i64))))), .cell (.sl 91 (.pair (.int .i64) (.pair (.int .i64) (.pair (.int .i64) .bool)))), .own 3 (.int .i64), .box 91 [.cell (.int .i64), .cell (.int .i64), .cell (.int .i64), .cell .bool], .cell (.sl 91 (.pair (.int .i64) (.pair (.int .i64) (.pair (.int .i64) .bool)))), .cell (.int .i64), .cell (.int .i64), .cell (.sl 91 (.pair (.int .i64) (.pair (.int .i64) (.pair (.int .i64) .bool)))), .cell (.int .i64), .cell (.int .i64)], [], 84⟩
noncomputable def l41_9 (k : Nat) (g4 : (List (Int × Int × Int × Int)) → (List (Int × Int × Int × Bool)) → (List Int) → (List (Int × Int × Int × Bool)) → Int → Int → Option ((Bool × Unit) × Unit)) (g9 : (List (Int × Int × Int × Int)) → (List (Int × Int × Int × Bool)) → (List Int) → Int → Int → Int → Bool → (List (Int × Int × Int × Bool)) → Int → Int → (List (Int × Int × Int × Bool)) → Int → Int → Option ((Bool × Unit) × Unit)) (l_2 : List (Int × Int × Int × Int)) (all1 : List (Int × Int × Int × Bool)) (around1 : List Int) (p : Int) (p1 : Int) (p2 : Int) (p3 : Bool) (t15_1 : List (Int × Int × Int × Bool)) (t16_1 : Int) (t17_1 : Int) (t27 : List (Int × Int × Int × Bool)) (t28 : Int) (t29 : Int) : Option ((Bool × Unit) × Unit) :=
  (bif decide (t29 < t28) then
    ix t27 t29 <|
    (S55 k (rd t27 t29 (0, 0, 0, false)) p2).bind fun q1 =>
    (bif q1.1.1 then
      (S56 k (p, p1, p2, p3) (rd t27 t29 (0, 0, 0, false))).bind fun q2 =>
      (bif !q2.1.1 then
        some ((false, ()), ())
      else
        (S57 k (p, p1, p2, p3) (rd t27 t29 (0, 0, 0, false))).bind fun q3 =>
        (bif !q3.1.1 then
          (S56 k (p, p1, p2, p3) (rd t27 t29 (0, 0, 0, false))).bind fun q4 =>
          (bif !q4.1.1 then
            (S56 k (rd t27 t29 (0, 0, 0, false)) (p, p1, p2, p3)).bind fun q5 =>
            (bif !q5.1.1 then
              some ((false, ()), ())
            else
              g9 l_2 all1 around1 p p1 p2 p3 t15_1 t16_1 t17_1 t27 t28 (IntKind.i64.wrap (t29 + 1)))
          else
            g9 l_2 all1 around1 p p1 p2 p3 t15_1 t16_1 t17_1 t27 t28 (IntKind.i64.wrap (t29 + 1)))
        else
          g9 l_2 all1 around1 p p1 p2 p3 t15_1 t16_1 t17_1 t27 t28 (IntKind.i64.wrap (t29 + 1))))
    else
      (S57 k (p, p1, p2, p3) (rd t27 t29 (0, 0, 0, false))).bind fun q6 =>
      (bif !q6.1.1 then
        (S56 k (p, p1, p2, p3) (rd t27 t29 (0, 0, 0, false))).bind fun q7 =>
        (bif !q7.1.1 then
          (S56 k (rd t27 t29 (0, 0, 0, false)) (p, p1, p2, p3)).bind fun q8 =>
          (bif !q8.1.1 then
            some ((false, ()), ())
          else
            g9 l_2 all1 around1 p p1 p2 p3 t15_1 t16_1 t17_1 t27 t28 (IntKind.i64.wrap (t29 + 1)))
        else
          g9 l_2 all1 around1 p p1 p2 p3 t15_1 t16_1 t17_1 t27 t28 (IntKind.i64.wrap (t29 + 1)))
      else
        g9 l_2 all1 around1 p p1 p2 p3 t15_1 t16_1 t17_1 t27 t28 (IntKind.i64.wrap (t29 + 1))))
  else
    L41_15 k g4 k l_2 all1 around1 p p1 p2 p3 p t15_1 t16_1 t17_1)
noncomputable def b41_9 (k : Nat) (g4 : (List (Int × Int × Int × Int)) → (List (Int × Int × Int × Bool)) → (List Int) → (List (Int × Int × Int × Bool)) → Int → Int → Option ((Bool × Unit) × Unit)) (g : ((Unit) × (List (Int × Int × Int × Int)) × (List (Int × Int × Int × Bool)) × (List Int) × (Int × Int × Int × Bool × Unit) × (List (Int × Int × Int × Bool)) × Int × Int × (List (Int × Int × Int × Bool)) × Int × Int × Unit) → Option ((Bool × Unit) × Unit)) (d : (Unit) × (List (Int × Int × Int × Int)) × (List (Int × Int × Int × Bool)) × (List Int) × (Int × Int × Int × Bool × Unit) × (List (Int × Int × Int × Bool)) × Int × Int × (List (Int × Int × Int × Bool)) × Int × Int × Unit) : Option ((Bool × Unit) × Unit) := l41_9 k g4 (fun l_2 all1 around1 p p1 p2 p3 t15_1 t16_1 t17_1 t27 t28 t29 => g ((), l_2, all1, around1, (p, p1, p2, p3, ()), t15_1, t16_1, t17_1, t27, t28, t29, ())) d.2.1 d.2.2.1 d.2.2.2.1 d.2.2.2.2.1.1 d.2.2.2.2.1.2.1 d.2.2.2.2.1.2.2.1 d.2.2.2.2.1.2.2.2.1 d.2.2.2.2.2.1 d.2.2.2.2.2.2.1 d.2.2.2.2.2.2.2.1 d.2.2.2.2.2.2.2.2.1 d.2.2.2.2.2.2.2.2.2.1 d.2.2.2.2.2.2.2.2.2.2.1
noncomputable def L41_9 (k : Nat) (g4 : (List (Int × Int × Int × Int)) → (List (Int × Int × Int × Bool)) → (List Int) → (List (Int × Int × Int × Bool)) → Int → Int → Option ((Bool × Unit) × Unit)) (j : Nat) (l_2 : List (Int × Int × Int × Int)) (all1 : List (Int × Int × Int × Bool)) (around1 : List Int) (p : Int) (p1 : Int) (p2 : Int) (p3 : Bool) (t15_1 : List (Int × Int × Int × Bool)) (t16_1 : Int) (t17_1 : Int) (t27 : List (Int × Int × Int × Bool)) (t28 : Int) (t29 : Int) : Option ((Bool × Unit) × Unit) := iter (R := (Bool × Unit) × Unit) c41_L9 (b41_9 k g4) j ((), l_2, all1, around1, (p, p1, p2, p3, ()), t15_1, t16_1, t17_1, t27, t28, t29, ())
theorem L41_9_s (k : Nat) (g4 : (List (Int × Int × Int × Int)) → (List (Int × Int × Int × Bool)) → (List Int) → (List (Int × Int × Int × Bool)) → Int → Int → Option ((Bool × Unit) × Unit)) (j : Nat) (l_2 : List (Int × Int × Int × Int)) (all1 : List (Int × Int × Int × Bool)) (around1 : List Int) (p : Int) (p1 : Int) (p2 : Int) (p3 : Bool) (t15_1 : List (Int × Int × Int × Bool)) (t16_1 : Int) (t17_1 : Int) (t27 : List (Int × Int × Int × Bool)) (t28 : Int) (t29 : Int) : L41_9 k g4 (j + 1) l_2 all1 around1 p p1 p2 p3 t15_1 t16_1 t17_1 t27 t28 t29 = l41_9 k g4 (L41_9 k g4 j) l_2 all1 around1 p p1 p2 p3 t15_1 t16_1 t17_1 t27 t28 t29 := iter_succ _ _ _ _
noncomputable abbrev c41_L4 : Cut := ⟨[0, 3, 4, 15, 16, 17], [.cell (.sl 41 (.pair (.int .i64) (.pair (.int .i64) (.pair (.int .i64) (.int .i64))))), .cell (.sl 91 (.pair (.int .i64) (.pair (.int .i64) (.pair (.int .i64) .bool)))), .own 3 (.int .i64), .cell (.sl 91 (.pair (.int .i64) (.pair (.int .i64) (.pair (.int .i64) .bool)))), .cell (.int .i64), .cell (.int .i64)], [], 84⟩
noncomputable def l41_4 (k : Nat) (g4 : (List (Int × Int × Int × Int)) → (List (Int × Int × Int × Bool)) → (List Int) → (List (Int × Int × Int × Bool)) → Int → Int → Option ((Bool × Unit) × Unit)) (l_1 : List (Int × Int × Int × Int)) (all : List (Int × Int × Int × Bool)) (around : List Int) (t15 : List (Int × Int × Int × Bool)) (t16 : Int) (t17 : Int) : Option ((Bool × Unit) × Unit) :=
  (bif decide (t17 < t16) then
    ix t15 t17 <|
    (bif decide ((rd t15 t17 (0, 0, 0, false)).2.1 ≥ (IntKind.i64.wrap ((l_1.length : Int) - 1))) then
      some ((false, ()), ())
    else
      L41_9 k g4 k l_1 all around (rd t15 t17 (0, 0, 0, false)).1 (rd t15 t17 (0, 0, 0, false)).2.1 (rd t15 t17 (0, 0, 0, false)).2.2.1 (rd t15 t17 (0, 0, 0, false)).2.2.2 t15 t16 t17 all (all.length : Int) 0)
  else
    (S43a k around).bind fun q9 =>
    some ((!q9.1.1, ()), ()))
noncomputable def b41_4 (k : Nat) (g : ((Unit) × (List (Int × Int × Int × Int)) × (List (Int × Int × Int × Bool)) × (List Int) × (List (Int × Int × Int × Bool)) × Int × Int × Unit) → Option ((Bool × Unit) × Unit)) (d : (Unit) × (List (Int × Int × Int × Int)) × (List (Int × Int × Int × Bool)) × (List Int) × (List (Int × Int × Int × Bool)) × Int × Int × Unit) : Option ((Bool × Unit) × Unit) := l41_4 k (fun l_1 all around t15 t16 t17 => g ((), l_1, all, around, t15, t16, t17, ())) d.2.1 d.2.2.1 d.2.2.2.1 d.2.2.2.2.1 d.2.2.2.2.2.1 d.2.2.2.2.2.2.1
noncomputable def L41_4 (k : Nat) (j : Nat) (l_1 : List (Int × Int × Int × Int)) (all : List (Int × Int × Int × Bool)) (around : List Int) (t15 : List (Int × Int × Int × Bool)) (t16 : Int) (t17 : Int) : Option ((Bool × Unit) × Unit) := iter (R := (Bool × Unit) × Unit) c41_L4 (b41_4 k) j ((), l_1, all, around, t15, t16, t17, ())
theorem L41_4_s (k : Nat) (j : Nat) (l_1 : List (Int × Int × Int × Int)) (all : List (Int × Int × Int × Bool)) (around : List Int) (t15 : List (Int × Int × Int × Bool)) (t16 : Int) (t17 : Int) : L41_4 k (j + 1) l_1 all around t15 t16 t17 = l41_4 k (L41_4 k j) l_1 all around t15 t16 t17 := iter_succ _ _ _ _
noncomputable def S41 (k : Nat) (l_ : List (Int × Int × Int × Int)) : Option ((Bool × Unit) × Unit) :=
  (S54 k l_).bind fun q0 =>
  mk (l_.length : Int) (l_.length : Int) 8 <|
  L41_4 k k l_ q0.1.1 (List.replicate (l_.length : Int).toNat (0 : Int)) q0.1.1 (q0.1.1.length : Int) 0
noncomputable def E41 : Env := tab.env (lk [(43, F43a), (54, F54), (55, F55), (56, F56), (57, F57)]) (hintL [])
theorem E41_ok : EnvOK Try.prog E41 := envOK_of tabOK _ _ (allFn_lk (l := [(43, F43a), (54, F54), (55, F55), (56, F56), (57, F57)]) ⟨ok43a, ok54, ok55, ok56, ok57, trivial⟩)
noncomputable def B41 (k : Nat) : Tbl (RD R41 × MD P41) := (.loop 4 c41_L4 (b41_4 k) (fun g => (fun (g4 : (List (Int × Int × Int × Int)) → (List (Int × Int × Int × Bool)) → (List Int) → (List (Int × Int × Int × Bool)) → Int → Int → Option ((Bool × Unit) × Unit)) => (.loop 15 c41_L15 (b41_15 k g4) (fun g => .nil) (.loop 9 c41_L9 (b41_9 k g4) (fun g => .nil) .nil))) (fun l_1 all around t15 t16 t17 => g ((), l_1, all, around, t15, t16, t17, ()))) .nil)
noncomputable def F41 : Fn := ⟨P41, R41, fun k x => S41 k x.1⟩
theorem ok41 : FnOK Try.prog 41 F41 := evalF_ok (E := E41) (T := B41) E41_ok mix Try.func41 rfl (by kernel_rfl) (by kernel_rfl) (fun k => by kernel_rfl) (fun k x => by kernel_rfl)
/-! ### 44: 44 foliot/shape.May$3 -/
noncomputable abbrev P44 : List PT := [.val ⟨false, (.int .i64), false⟩, .pv (.ref (.int .i64))]
noncomputable abbrev R44 : List RT := [.val ⟨false, .bool, true⟩]
noncomputable def S44 (k : Nat) (end_ : Int) (x1 : Int) : Option ((Bool × Unit) × Unit) :=
  some ((decide (end_ > x1), ()), ())
noncomputable def E44 : Env := tab.env (lk []) (hintL [])
theorem E44_ok : EnvOK Try.prog E44 := envOK_of tabOK _ _ (fun f F h => by cases h)
noncomputable def B44 (k : Nat) : Tbl (RD R44 × MD P44) := .nil
noncomputable def F44 : Fn := ⟨P44, R44, fun k x => S44 k x.1 x.2.1⟩
theorem ok44 : FnOK Try.prog 44 F44 := evalF_ok (E := E44) (T := B44) E44_ok mix Try.func44 rfl (by kernel_rfl) (by kernel_rfl) (fun k => by kernel_rfl) (fun k x => by kernel_rfl)
/-! ### 59b: 59 slices.IndexFunc[[]int,int] -/
noncomputable abbrev P59b : List PT := [.val ⟨false, (.sl 3 (.int .i64)), false⟩, .pv (.clo 44 [.ref (.int .i64)])]
noncomputable abbrev R59b : List RT := [.val ⟨false, (.int .i64), true⟩]
noncomputable abbrev c59b_L2 : Cut := ⟨[0, 1, 7, 8], [.cell (.sl 3 (.int .i64)), .clo 44 [.ref (.int .i64)], .cell (.int .i64), .cell (.int .i64)], [], 19⟩
noncomputable def l59b_2 (k : Nat) (g2 : (List Int) → Int → Int → Int → Option ((Int × Unit) × Unit)) (s1 : List Int) (f1 : Int) (t7 : Int) (t8 : Int) : Option ((Int × Unit) × Unit) :=
  (bif decide (t8 < t7) then
    ix s1 t8 <|
    (S44 k (rd s1 t8 0) f1).bind fun q0 =>
    (bif q0.1.1 then
      some ((t8, ()), ())
    else
      g2 s1 f1 t7 (IntKind.i64.wrap (t8 + 1)))
  else
    some (((-1), ()), ()))
noncomputable def b59b_2 (k : Nat) (g : ((Unit) × (List Int) × (Int × Unit) × Int × Int × Unit) → Option ((Int × Unit) × Unit)) (d : (Unit) × (List Int) × (Int × Unit) × Int × Int × Unit) : Option ((Int × Unit) × Unit) := l59b_2 k (fun s1 f1 t7 t8 => g ((), s1, (f1, ()), t7, t8, ())) d.2.1 d.2.2.1.1 d.2.2.2.1 d.2.2.2.2.1
noncomputable def L59b_2 (k : Nat) (j : Nat) (s1 : List Int) (f1 : Int) (t7 : Int) (t8 : Int) : Option ((Int × Unit) × Unit) := iter (R := (Int × Unit) × Unit) c59b_L2 (b59b_2 k) j ((), s1, (f1, ()), t7, t8, ())
theorem L59b_2_s (k : Nat) (j : Nat) (s1 : List Int) (f1 : Int) (t7 : Int) (t8 : Int) : L59b_2 k (j + 1) s1 f1 t7 t8 = l59b_2 k (L59b_2 k j) s1 f1 t7 t8 := iter_succ _ _ _ _
noncomputable def S59b (k : Nat) (s : List Int) (f : Int) : Option ((Int × Unit) × Unit) :=
  L59b_2 k k s f (s.length : Int) 0
noncomputable def E59b : Env := tab.env (lk [(44, F44)]) (hintL [])
theorem E59b_ok : EnvOK Try.prog E59b := envOK_of tabOK _ _ (allFn_lk (l := [(44, F44)]) ⟨ok44, trivial⟩)
noncomputable def B59b (k : Nat) : Tbl (RD R59b × MD P59b) := (.loop 2 c59b_L2 (b59b_2 k) (fun g => .nil) .nil)
noncomputable def F59b : Fn := ⟨P59b, R59b, fun k x => S59b k x.1 x.2.1.1⟩
theorem ok59b : FnOK Try.prog 59 F59b := evalF_ok (E := E59b) (T := B59b) E59b_ok mix Try.func59 rfl (by kernel_rfl) (by kernel_rfl) (fun k => by kernel_rfl) (fun k x => by kernel_rfl)
/-! ### 43b: 43 slices.ContainsFunc[[]int,int] -/
noncomputable abbrev P43b : List PT := [.val ⟨false, (.sl 3 (.int .i64)), false⟩, .pv (.clo 44 [.ref (.int .i64)])]
noncomputable abbrev R43b : List RT := [.val ⟨false, .bool, true⟩]
noncomputable def S43b (k : Nat) (s : List Int) (f : Int) : Option ((Bool × Unit) × Unit) :=
  (S59b k s f).bind fun q0 =>
  some ((decide (q0.1.1 ≥ 0), ()), ())
noncomputable def E43b : Env := tab.env (lk [(59, F59b)]) (hintL [])
theorem E43b_ok : EnvOK Try.prog E43b := envOK_of tabOK _ _ (allFn_lk (l := [(59, F59b)]) ⟨ok59b, trivial⟩)
noncomputable def B43b (k : Nat) : Tbl (RD R43b × MD P43b) := .nil
noncomputable def F43b : Fn := ⟨P43b, R43b, fun k x => S43b k x.1 x.2.1.1⟩
theorem ok43b : FnOK Try.prog 43 F43b := evalF_ok (E := E43b) (T := B43b) E43b_ok mix Try.func43 rfl (by kernel_rfl) (by kernel_rfl) (fun k => by kernel_rfl) (fun k x => by kernel_rfl)
/-! ### 18: 18 foliot/shape.May -/
noncomputable abbrev P18 : List PT := [.val ⟨false, (.sl 41 (.pair (.int .i64) (.pair (.int .i64) (.pair (.int .i64) (.int .i64))))), false⟩]
noncomputable abbrev R18 : List RT := [.val ⟨false, .bool, true⟩]
noncomputable abbrev c18_L11 : Cut := ⟨[4, 6, 42, 43, 44], [.own 3 (.int .i64), .own 76 (arrT 24 .bool), .cell (.sl 41 (.pair (.int .i64) (.pair (.int .i64) (.pair (.int .i64) (.int .i64))))), .cell (.int .i64), .cell (.int .i64)], [], 66⟩
noncomputable def l18_11 (k : Nat) (g11 : (List Int) → (List (PN Bool 24)) → (List (Int × Int × Int × Int)) → Int → Int → Option ((Bool × Unit) × Unit)) (pairs : List Int) (all : List (PN Bool 24)) (t42 : List (Int × Int × Int × Int)) (t43 : Int) (t44 : Int) : Option ((Bool × Unit) × Unit) :=
  (bif decide (t44 < t43) then
    ix t42 t44 <|
    (bif (rd t42 t44 (0, 0, 0, 0)).1 != 11 then
      g11 pairs all t42 t43 (IntKind.i64.wrap (t44 + 1))
    else
      ix all t44 <|
      (bif !(beqD (arrT 24 .bool) (rd all t44 (prep (α := Bool) 24 false)) (false, false, false, false, false, false, false, false, false, false, false, false, false, false, false, false, false, false, false, false, false, false, false, false)) then
        some ((false, ()), ())
      else
        sx pairs 0 t44 <|
        (S43b k (sub pairs 0 t44) t44).bind fun q5 =>
        (bif q5.1.1 then
          some ((false, ()), ())
        else
          g11 pairs all t42 t43 (IntKind.i64.wrap (t44 + 1)))))
  else
    some ((true, ()), ()))
noncomputable def b18_11 (k : Nat) (g : ((Unit) × (List Int) × (List (PN Bool 24)) × (List (Int × Int × Int × Int)) × Int × Int × Unit) → Option ((Bool × Unit) × Unit)) (d : (Unit) × (List Int) × (List (PN Bool 24)) × (List (Int × Int × Int × Int)) × Int × Int × Unit) : Option ((Bool × Unit) × Unit) := l18_11 k (fun pairs all t42 t43 t44 => g ((), pairs, all, t42, t43, t44, ())) d.2.1 d.2.2.1 d.2.2.2.1 d.2.2.2.2.1 d.2.2.2.2.2.1
noncomputable def L18_11 (k : Nat) (j : Nat) (pairs : List Int) (all : List (PN Bool 24)) (t42 : List (Int × Int × Int × Int)) (t43 : Int) (t44 : Int) : Option ((Bool × Unit) × Unit) := iter (R := (Bool × Unit) × Unit) c18_L11 (b18_11 k) j ((), pairs, all, t42, t43, t44, ())
theorem L18_11_s (k : Nat) (j : Nat) (pairs : List Int) (all : List (PN Bool 24)) (t42 : List (Int × Int × Int × Int)) (t43 : Int) (t44 : Int) : L18_11 k (j + 1) pairs all t42 t43 t44 = l18_11 k (L18_11 k j) pairs all t42 t43 t44 := iter_succ _ _ _ _
noncomputable def S18 (k : Nat) (l_ : List (Int × Int × Int × Int)) : Option ((Bool × Unit) × Unit) :=
  (bif decide ((l_.length : Int) < 1) then
    some ((false, ()), ())
  else
    (bif decide ((l_.length : Int) > 24) then
      some ((false, ()), ())
    else
      (S36 k l_).bind fun q0 =>
      (bif q0.1.1 then
        some ((false, ()), ())
      else
        (S39a k l_).bind fun q1 =>
        (bif q1.1.1 != (IntKind.i64.wrap ((l_.length : Int) - 1)) then
          some ((false, ()), ())
        else
          (S41 k l_).bind fun q2 =>
          (bif !q2.1.1 then
            some ((false, ()), ())
          else
            (S19 k l_).bind fun q3 =>
            (bif !q3.1.2.1 then
              some ((false, ()), ())
            else
              (S42 k l_).bind fun q4 =>
              L18_11 k k q3.1.1 q4.1.1 l_ (l_.length : Int) 0))))))
noncomputable def E18 : Env := tab.env (lk [(19, F19), (36, F36), (39, F39a), (41, F41), (42, F42), (43, F43b)]) (hintL [])
theorem E18_ok : EnvOK Try.prog E18 := envOK_of tabOK _ _ (allFn_lk (l := [(19, F19), (36, F36), (39, F39a), (41, F41), (42, F42), (43, F43b)]) ⟨ok19, ok36, ok39a, ok41, ok42, ok43b, trivial⟩)
noncomputable def B18 (k : Nat) : Tbl (RD R18 × MD P18) := (.loop 11 c18_L11 (b18_11 k) (fun g => .nil) .nil)
noncomputable def F18 : Fn := ⟨P18, R18, fun k x => S18 k x.1⟩
theorem ok18 : FnOK Try.prog 18 F18 := evalF_ok (E := E18) (T := B18) E18_ok mix Try.func18 rfl (by kernel_rfl) (by kernel_rfl) (fun k => by kernel_rfl) (fun k x => by kernel_rfl)
/-! ### 13: 13 foliot/foliotlaw6.begun -/
noncomputable abbrev P13 : List PT := []
noncomputable abbrev R13 : List RT := [.val ⟨false, .bool, true⟩]
noncomputable def S13 (k : Nat) : Option ((Bool × Unit) × Unit) :=
  (S19 k ([(9, 1, 0, 0), (10, 1, 0, 0), (0, 0, 0, 0)] : List (Int × Int × Int × Int))).bind fun q0 =>
  sx ([(9, 1, 0, 0), (10, 1, 0, 0), (0, 0, 0, 0)] : List (Int × Int × Int × Int)) 0 1 <|
  (S19 k (sub ([(9, 1, 0, 0), (10, 1, 0, 0), (0, 0, 0, 0)] : List (Int × Int × Int × Int)) 0 1)).bind fun q1 =>
  (S18 k ([(9, 1, 0, 0), (10, 1, 0, 0), (0, 0, 0, 0)] : List (Int × Int × Int × Int))).bind fun q2 =>
  (bif q2.1.1 then
    sx ([(9, 1, 0, 0), (10, 1, 0, 0), (0, 0, 0, 0)] : List (Int × Int × Int × Int)) 0 2 <|
    (S18 k (sub ([(9, 1, 0, 0), (10, 1, 0, 0), (0, 0, 0, 0)] : List (Int × Int × Int × Int)) 0 2)).bind fun q3 =>
    (bif !q3.1.1 then
      (bif q0.1.2.1 then
        (bif (q0.1.1.length : Int) == 3 then
          ix q0.1.1 0 <|
          (bif (rd q0.1.1 0 0) == 1 then
            some ((!q1.1.2.1, ()), ())
          else
            some ((false, ()), ()))
        else
          some ((false, ()), ()))
      else
        some ((false, ()), ()))
    else
      some ((false, ()), ()))
  else
    some ((false, ()), ()))
noncomputable def E13 : Env := tab.env (lk [(18, F18), (19, F19)]) (hintL [])
theorem E13_ok : EnvOK Try.prog E13 := envOK_of tabOK _ _ (allFn_lk (l := [(18, F18), (19, F19)]) ⟨ok18, ok19, trivial⟩)
noncomputable def B13 (k : Nat) : Tbl (RD R13 × MD P13) := .nil
noncomputable def F13 : Fn := ⟨P13, R13, fun k x => S13 k ⟩
theorem ok13 : FnOK Try.prog 13 F13 := evalF_ok (E := E13) (T := B13) E13_ok mix Try.func13 rfl (by kernel_rfl) (by kernel_rfl) (fun k => by kernel_rfl) (fun k x => by kernel_rfl)
/-! ### 14: 14 foliot/foliotplay.Made -/
noncomputable abbrev P14 : List PT := [.val ⟨false, (.sl 5 (.int .u8)), false⟩]
noncomputable abbrev R14 : List RT := [.pv (.box 60 [.cell (.sl 5 (.int .u8)), .cell (.int .i64)])]
noncomputable def S14 (k : Nat) (l_ : List Int) : Option ((((List Int) × Int × Unit) × Unit) × Unit) :=
  some (((l_, 0, ()), ()), ())
noncomputable def E14 : Env := tab.env (lk []) (hintL [])
theorem E14_ok : EnvOK Try.prog E14 := envOK_of tabOK _ _ (fun f F h => by cases h)
noncomputable def B14 (k : Nat) : Tbl (RD R14 × MD P14) := .nil
noncomputable def F14 : Fn := ⟨P14, R14, fun k x => S14 k x.1⟩
theorem ok14 : FnOK Try.prog 14 F14 := evalF_ok (E := E14) (T := B14) E14_ok mix Try.func14 rfl (by kernel_rfl) (by kernel_rfl) (fun k => by kernel_rfl) (fun k x => by kernel_rfl)
/-! ### 29: 29 (*foliot/foliotplay.Picks).Num -/
noncomputable abbrev P29 : List PT := [.mbox 60 [.cell (.sl 5 (.int .u8)), .cell (.int .i64)], .val ⟨false, (.int .i64), false⟩]
noncomputable abbrev R29 : List RT := [.val ⟨false, (.int .i64), true⟩]
noncomputable def S29 (k : Nat) (p : List Int) (p1 : Int) (m : Int) : Option ((Int × Unit) × ((List Int) × Int × Unit) × Unit) :=
  (bif decide (p1 ≥ (p.length : Int)) then
    some ((0, ()), (p, p1, ()), ())
  else
    ix p (IntKind.i64.wrap ((IntKind.i64.wrap (p1 + 1)) - 1)) <|
    nz m <|
    some ((Int.tmod (IntKind.i64.wrap (rd p (IntKind.i64.wrap ((IntKind.i64.wrap (p1 + 1)) - 1)) 0)) m, ()), (p, IntKind.i64.wrap (p1 + 1), ()), ()))
noncomputable def E29 : Env := tab.env (lk []) (hintL [])
theorem E29_ok : EnvOK Try.prog E29 := envOK_of tabOK _ _ (fun f F h => by cases h)
noncomputable def B29 (k : Nat) : Tbl (RD R29 × MD P29) := .nil
noncomputable def F29 : Fn := ⟨P29, R29, fun k x => S29 k x.1.1 x.1.2.1 x.2.1⟩
theorem ok29 : FnOK Try.prog 29 F29 := evalF_ok (E := E29) (T := B29) E29_ok mix Try.func29 rfl (by kernel_rfl) (by kernel_rfl) (fun k => by kernel_rfl) (fun k x => by kernel_rfl)
/-! ### 31: 31 (*foliot/foliotplay.Picks).plain -/
noncomputable abbrev P31 : List PT := [.mbox 60 [.cell (.sl 5 (.int .u8)), .cell (.int .i64)]]
noncomputable abbrev R31 : List RT := [.val ⟨true, (.pair (.int .i64) (.pair (.int .i64) (.pair (.int .i64) (.int .i64)))), true⟩]
noncomputable def S31 (k : Nat) (p : List Int) (p1 : Int) : Option (((Int × Int × Int × Int) × Unit) × ((List Int) × Int × Unit) × Unit) :=
  (S29 k p p1 3).bind fun q0 =>
  (S29 k q0.2.1.1 q0.2.1.2.1 3).bind fun q1 =>
  (S29 k q1.2.1.1 q1.2.1.2.1 6).bind fun q2 =>
  (bif q2.1.1 == 0 then
    (S29 k q2.2.1.1 q2.2.1.2.1 9).bind fun q3 =>
    some (((1, q0.1.1, 0, IntKind.i64.wrap (q3.1.1 - 4)), ()), (q3.2.1.1, q3.2.1.2.1, ()), ())
  else
    (bif q2.1.1 == 1 then
      some (((2, q0.1.1, q1.1.1, 0), ()), (q2.2.1.1, q2.2.1.2.1, ()), ())
    else
      (bif q2.1.1 == 2 then
        some (((3, q0.1.1, q1.1.1, 0), ()), (q2.2.1.1, q2.2.1.2.1, ()), ())
      else
        (bif q2.1.1 == 3 then
          some (((4, q0.1.1, q1.1.1, 0), ()), (q2.2.1.1, q2.2.1.2.1, ()), ())
        else
          (bif q2.1.1 == 4 then
            (S29 k q2.2.1.1 q2.2.1.2.1 7).bind fun q4 =>
            some (((5, q0.1.1, 0, IntKind.i64.wrap (q4.1.1 - 3)), ()), (q4.2.1.1, q4.2.1.2.1, ()), ())
          else
            (S29 k q2.2.1.1 q2.2.1.2.1 64).bind fun q5 =>
            some (((6, q0.1.1, 0, IntKind.i64.wrap (1 + q5.1.1)), ()), (q5.2.1.1, q5.2.1.2.1, ()), ()))))))
noncomputable def E31 : Env := tab.env (lk [(29, F29)]) (hintL [])
theorem E31_ok : EnvOK Try.prog E31 := envOK_of tabOK _ _ (allFn_lk (l := [(29, F29)]) ⟨ok29, trivial⟩)
noncomputable def B31 (k : Nat) : Tbl (RD R31 × MD P31) := .nil
noncomputable def F31 : Fn := ⟨P31, R31, fun k x => S31 k x.1.1 x.1.2.1⟩
theorem ok31 : FnOK Try.prog 31 F31 := evalF_ok (E := E31) (T := B31) E31_ok mix Try.func31 rfl (by kernel_rfl) (by kernel_rfl) (fun k => by kernel_rfl) (fun k x => by kernel_rfl)
/-! ### 30: 30 (*foliot/foliotplay.Picks).some -/
noncomputable abbrev P30 : List PT := [.mbox 60 [.cell (.sl 5 (.int .u8)), .cell (.int .i64)], .val ⟨false, (.int .i64), false⟩, .val ⟨false, (.int .i64), false⟩]
noncomputable abbrev R30 : List RT := [.val ⟨false, (.sl 41 (.pair (.int .i64) (.pair (.int .i64) (.pair (.int .i64) (.int .i64))))), true⟩]
noncomputable abbrev c30_L3 : Cut := ⟨[0, 2, 7, 8], [.pin false 0, .cell (.int .i64), .own 41 (.pair (.int .i64) (.pair (.int .i64) (.pair (.int .i64) (.int .i64)))), .cell (.int .i64)], [.mbox 60 [.cell (.sl 5 (.int .u8)), .cell (.int .i64)]], 47⟩
noncomputable def l30_3 (k : Nat) (g3 : (List Int) → Int → Int → (List (Int × Int × Int × Int)) → Int → Option (((List (Int × Int × Int × Int)) × Unit) × ((List Int) × Int × Unit) × Unit)) (p2 : List Int) (p3 : Int) (locks1 : Int) (l_ : List (Int × Int × Int × Int)) (i : Int) : Option (((List (Int × Int × Int × Int)) × Unit) × ((List Int) × Int × Unit) × Unit) :=
  (bif decide (i > 0) then
    (bif decide (locks1 > 0) then
      (S29 k p2 p3 4).bind fun q1 =>
      (bif q1.1.1 == 0 then
        (S29 k q1.2.1.1 q1.2.1.2.1 locks1).bind fun q2 =>
        ap l_ ([(9, q2.1.1, 0, 0)] : List (Int × Int × Int × Int)) 32 fun r3 =>
        (S31 k q2.2.1.1 q2.2.1.2.1).bind fun q4 =>
        ap r3 ([q4.1.1] : List (Int × Int × Int × Int)) 32 fun r5 =>
        ap r5 ([(10, q2.1.1, 0, 0)] : List (Int × Int × Int × Int)) 32 fun r6 =>
        g3 q4.2.1.1 q4.2.1.2.1 locks1 r6 (IntKind.i64.wrap (i - 1))
      else
        (S31 k q1.2.1.1 q1.2.1.2.1).bind fun q7 =>
        ap l_ ([q7.1.1] : List (Int × Int × Int × Int)) 32 fun r8 =>
        g3 q7.2.1.1 q7.2.1.2.1 locks1 r8 (IntKind.i64.wrap (i - 1)))
    else
      (S31 k p2 p3).bind fun q9 =>
      ap l_ ([q9.1.1] : List (Int × Int × Int × Int)) 32 fun r10 =>
      g3 q9.2.1.1 q9.2.1.2.1 locks1 r10 (IntKind.i64.wrap (i - 1)))
  else
    some ((l_, ()), (p2, p3, ()), ()))
noncomputable def b30_3 (k : Nat) (g : ((((List Int) × Int × Unit) × Unit) × Unit × Int × (List (Int × Int × Int × Int)) × Int × Unit) → Option (((List (Int × Int × Int × Int)) × Unit) × ((List Int) × Int × Unit) × Unit)) (d : (((List Int) × Int × Unit) × Unit) × Unit × Int × (List (Int × Int × Int × Int)) × Int × Unit) : Option (((List (Int × Int × Int × Int)) × Unit) × ((List Int) × Int × Unit) × Unit) := l30_3 k (fun p2 p3 locks1 l_ i => g (((p2, p3, ()), ()), (), locks1, l_, i, ())) d.1.1.1 d.1.1.2.1 d.2.2.1 d.2.2.2.1 d.2.2.2.2.1
noncomputable def L30_3 (k : Nat) (j : Nat) (p2 : List Int) (p3 : Int) (locks1 : Int) (l_ : List (Int × Int × Int × Int)) (i : Int) : Option (((List (Int × Int × Int × Int)) × Unit) × ((List Int) × Int × Unit) × Unit) := iter (R := ((List (Int × Int × Int × Int)) × Unit) × ((List Int) × Int × Unit) × Unit) c30_L3 (b30_3 k) j (((p2, p3, ()), ()), (), locks1, l_, i, ())
theorem L30_3_s (k : Nat) (j : Nat) (p2 : List Int) (p3 : Int) (locks1 : Int) (l_ : List (Int × Int × Int × Int)) (i : Int) : L30_3 k (j + 1) p2 p3 locks1 l_ i = l30_3 k (L30_3 k j) p2 p3 locks1 l_ i := iter_succ _ _ _ _
noncomputable def S30 (k : Nat) (p : List Int) (p1 : Int) (most : Int) (locks : Int) : Option (((List (Int × Int × Int × Int)) × Unit) × ((List Int) × Int × Unit) × Unit) :=
  (S29 k p p1 most).bind fun q0 =>
  L30_3 k k q0.2.1.1 q0.2.1.2.1 locks ([] : List (Int × Int × Int × Int)) (IntKind.i64.wrap (q0.1.1 + 1))
noncomputable def E30 : Env := tab.env (lk [(29, F29), (31, F31)]) (hintL [(7, 2)])
theorem E30_ok : EnvOK Try.prog E30 := envOK_of tabOK _ _ (allFn_lk (l := [(29, F29), (31, F31)]) ⟨ok29, ok31, trivial⟩)
noncomputable def B30 (k : Nat) : Tbl (RD R30 × MD P30) := (.loop 3 c30_L3 (b30_3 k) (fun g => .nil) .nil)
noncomputable def F30 : Fn := ⟨P30, R30, fun k x => S30 k x.1.1 x.1.2.1 x.2.1 x.2.2.1⟩
theorem ok30 : FnOK Try.prog 30 F30 := evalF_ok (E := E30) (T := B30) E30_ok mix Try.func30 rfl (by kernel_rfl) (by kernel_rfl) (fun k => by kernel_rfl) (fun k x => by kernel_rfl)
/-! ### 15: 15 (*foliot/foliotplay.Picks).Code -/
noncomputable abbrev P15 : List PT := [.mbox 60 [.cell (.sl 5 (.int .u8)), .cell (.int .i64)], .val ⟨false, (.int .i64), false⟩]
noncomputable abbrev R15 : List RT := [.val ⟨false, (.sl 41 (.pair (.int .i64) (.pair (.int .i64) (.pair (.int .i64) (.int .i64))))), true⟩]
noncomputable abbrev c15_J16 : Cut := ⟨[0, 1, 5, 6, 7], [.pin false 0, .cell (.int .i64), .own 41 (.pair (.int .i64) (.pair (.int .i64) (.pair (.int .i64) (.int .i64)))), .cell (.int .i64), .own 41 (.pair (.int .i64) (.pair (.int .i64) (.pair (.int .i64) (.int .i64))))], [.mbox 60 [.cell (.sl 5 (.int .u8)), .cell (.int .i64)]], 66⟩
noncomputable def j15_16 (k : Nat) (g3 : (List Int) → Int → Int → (List (Int × Int × Int × Int)) → Int → Option (((List (Int × Int × Int × Int)) × Unit) × ((List Int) × Int × Unit) × Unit)) (p4 : List Int) (p5 : Int) (locks2 : Int) (l_1 : List (Int × Int × Int × Int)) (i1 : Int) (x : List (Int × Int × Int × Int)) : Option (((List (Int × Int × Int × Int)) × Unit) × ((List Int) × Int × Unit) × Unit) :=
  (bif decide ((IntKind.i64.wrap ((l_1.length : Int) + (x.length : Int))) < 23) then
    ap l_1 x 32 fun r9 =>
    g3 p4 p5 locks2 r9 (IntKind.i64.wrap (i1 - 1))
  else
    g3 p4 p5 locks2 l_1 (IntKind.i64.wrap (i1 - 1)))
noncomputable abbrev c15_L3 : Cut := ⟨[0, 1, 5, 6], [.pin false 0, .cell (.int .i64), .own 41 (.pair (.int .i64) (.pair (.int .i64) (.pair (.int .i64) (.int .i64)))), .cell (.int .i64)], [.mbox 60 [.cell (.sl 5 (.int .u8)), .cell (.int .i64)]], 66⟩
noncomputable def l15_3 (k : Nat) (g3 : (List Int) → Int → Int → (List (Int × Int × Int × Int)) → Int → Option (((List (Int × Int × Int × Int)) × Unit) × ((List Int) × Int × Unit) × Unit)) (p2 : List Int) (p3 : Int) (locks1 : Int) (l_ : List (Int × Int × Int × Int)) (i : Int) : Option (((List (Int × Int × Int × Int)) × Unit) × ((List Int) × Int × Unit) × Unit) :=
  (bif decide (i > 0) then
    (S29 k p2 p3 5).bind fun q1 =>
    (bif q1.1.1 == 0 then
      (S30 k q1.2.1.1 q1.2.1.2.1 2 locks1).bind fun q2 =>
      (S29 k q2.2.1.1 q2.2.1.2.1 3).bind fun q3 =>
      ap ([(8, 0, (q2.1.1.length : Int), IntKind.i64.wrap (1 + q3.1.1))] : List (Int × Int × Int × Int)) q2.1.1 32 fun r4 =>
      j15_16 k g3 q3.2.1.1 q3.2.1.2.1 locks1 l_ i r4
    else
      (bif q1.1.1 == 1 then
        (S30 k q1.2.1.1 q1.2.1.2.1 2 locks1).bind fun q5 =>
        (S29 k q5.2.1.1 q5.2.1.2.1 3).bind fun q6 =>
        ap ([(7, q6.1.1, 0, (q5.1.1.length : Int))] : List (Int × Int × Int × Int)) q5.1.1 32 fun r7 =>
        j15_16 k g3 q6.2.1.1 q6.2.1.2.1 locks1 l_ i r7
      else
        (bif q1.1.1 == 2 then
          j15_16 k g3 q1.2.1.1 q1.2.1.2.1 locks1 l_ i ([(11, 0, 0, 0)] : List (Int × Int × Int × Int))
        else
          (S30 k q1.2.1.1 q1.2.1.2.1 2 locks1).bind fun q8 =>
          j15_16 k g3 q8.2.1.1 q8.2.1.2.1 locks1 l_ i q8.1.1)))
  else
    ap l_ ([(0, 0, 0, 0)] : List (Int × Int × Int × Int)) 32 fun r10 =>
    some ((r10, ()), (p2, p3, ()), ()))
noncomputable def b15_3 (k : Nat) (g : ((((List Int) × Int × Unit) × Unit) × Unit × Int × (List (Int × Int × Int × Int)) × Int × Unit) → Option (((List (Int × Int × Int × Int)) × Unit) × ((List Int) × Int × Unit) × Unit)) (d : (((List Int) × Int × Unit) × Unit) × Unit × Int × (List (Int × Int × Int × Int)) × Int × Unit) : Option (((List (Int × Int × Int × Int)) × Unit) × ((List Int) × Int × Unit) × Unit) := l15_3 k (fun p2 p3 locks1 l_ i => g (((p2, p3, ()), ()), (), locks1, l_, i, ())) d.1.1.1 d.1.1.2.1 d.2.2.1 d.2.2.2.1 d.2.2.2.2.1
noncomputable def L15_3 (k : Nat) (j : Nat) (p2 : List Int) (p3 : Int) (locks1 : Int) (l_ : List (Int × Int × Int × Int)) (i : Int) : Option (((List (Int × Int × Int × Int)) × Unit) × ((List Int) × Int × Unit) × Unit) := iter (R := ((List (Int × Int × Int × Int)) × Unit) × ((List Int) × Int × Unit) × Unit) c15_L3 (b15_3 k) j (((p2, p3, ()), ()), (), locks1, l_, i, ())
theorem L15_3_s (k : Nat) (j : Nat) (p2 : List Int) (p3 : Int) (locks1 : Int) (l_ : List (Int × Int × Int × Int)) (i : Int) : L15_3 k (j + 1) p2 p3 locks1 l_ i = l15_3 k (L15_3 k j) p2 p3 locks1 l_ i := iter_succ _ _ _ _
noncomputable def S15 (k : Nat) (p : List Int) (p1 : Int) (locks : Int) : Option (((List (Int × Int × Int × Int)) × Unit) × ((List Int) × Int × Unit) × Unit) :=
  (S29 k p p1 4).bind fun q0 =>
  L15_3 k k q0.2.1.1 q0.2.1.2.1 locks ([] : List (Int × Int × Int × Int)) (IntKind.i64.wrap (q0.1.1 + 1))
noncomputable def E15 : Env := tab.env (lk [(29, F29), (30, F30)]) (hintL [(5, 2)])
theorem E15_ok : EnvOK Try.prog E15 := envOK_of tabOK _ _ (allFn_lk (l := [(29, F29), (30, F30)]) ⟨ok29, ok30, trivial⟩)
noncomputable def B15 (k : Nat) : Tbl (RD R15 × MD P15) := (.loop 3 c15_L3 (b15_3 k) (fun g => (fun (g3 : (List Int) → Int → Int → (List (Int × Int × Int × Int)) → Int → Option (((List (Int × Int × Int × Int)) × Unit) × ((List Int) × Int × Unit) × Unit)) => (.join 16 c15_J16 (fun d => j15_16 k g3 d.1.1.1 d.1.1.2.1 d.2.2.1 d.2.2.2.1 d.2.2.2.2.1 d.2.2.2.2.2.1) .nil)) (fun p2 p3 locks1 l_ i => g (((p2, p3, ()), ()), (), locks1, l_, i, ()))) .nil)
noncomputable def F15 : Fn := ⟨P15, R15, fun k x => S15 k x.1.1 x.1.2.1 x.2.1⟩
theorem ok15 : FnOK Try.prog 15 F15 := evalF_ok (E := E15) (T := B15) E15_ok mix Try.func15 rfl (by kernel_rfl) (by kernel_rfl) (fun k => by kernel_rfl) (fun k x => by kernel_rfl)
/-! ### 16: 16 (*foliot/foliotplay.Picks).Wild -/
noncomputable abbrev P16 : List PT := [.mbox 60 [.cell (.sl 5 (.int .u8)), .cell (.int .i64)]]
noncomputable abbrev R16 : List RT := [.val ⟨false, (.sl 41 (.pair (.int .i64) (.pair (.int .i64) (.pair (.int .i64) (.int .i64))))), true⟩]
noncomputable abbrev c16_L3 : Cut := ⟨[0, 3, 4], [.pin false 0, .own 41 (.pair (.int .i64) (.pair (.int .i64) (.pair (.int .i64) (.int .i64)))), .cell (.int .i64)], [.mbox 60 [.cell (.sl 5 (.int .u8)), .cell (.int .i64)]], 56⟩
noncomputable def l16_3 (k : Nat) (g3 : (List Int) → Int → (List (Int × Int × Int × Int)) → Int → Option (((List (Int × Int × Int × Int)) × Unit) × ((List Int) × Int × Unit) × Unit)) (p2 : List Int) (p3 : Int) (l_ : List (Int × Int × Int × Int)) (i : Int) : Option (((List (Int × Int × Int × Int)) × Unit) × ((List Int) × Int × Unit) × Unit) :=
  (bif decide (i > 0) then
    (S31 k p2 p3).bind fun q1 =>
    (S29 k q1.2.1.1 q1.2.1.2.1 9).bind fun q2 =>
    (bif q2.1.1 == 0 then
      (S29 k q2.2.1.1 q2.2.1.2.1 3).bind fun q3 =>
      (S29 k q3.2.1.1 q3.2.1.2.1 5).bind fun q4 =>
      ap l_ ([(7, q3.1.1, 0, IntKind.i64.wrap (1 + q4.1.1))] : List (Int × Int × Int × Int)) 32 fun r5 =>
      g3 q4.2.1.1 q4.2.1.2.1 r5 (IntKind.i64.wrap (i - 1))
    else
      (bif q2.1.1 == 1 then
        (S29 k q2.2.1.1 q2.2.1.2.1 5).bind fun q6 =>
        (S29 k q6.2.1.1 q6.2.1.2.1 3).bind fun q7 =>
        ap l_ ([(8, 0, IntKind.i64.wrap (1 + q6.1.1), IntKind.i64.wrap (1 + q7.1.1))] : List (Int × Int × Int × Int)) 32 fun r8 =>
        g3 q7.2.1.1 q7.2.1.2.1 r8 (IntKind.i64.wrap (i - 1))
      else
        (bif q2.1.1 == 2 then
          (S29 k q2.2.1.1 q2.2.1.2.1 2).bind fun q9 =>
          ap l_ ([(9, q9.1.1, 0, 0)] : List (Int × Int × Int × Int)) 32 fun r10 =>
          g3 q9.2.1.1 q9.2.1.2.1 r10 (IntKind.i64.wrap (i - 1))
        else
          (bif q2.1.1 == 3 then
            (S29 k q2.2.1.1 q2.2.1.2.1 2).bind fun q11 =>
            ap l_ ([(9, q11.1.1, 0, 0)] : List (Int × Int × Int × Int)) 32 fun r12 =>
            g3 q11.2.1.1 q11.2.1.2.1 r12 (IntKind.i64.wrap (i - 1))
          else
            (bif q2.1.1 == 4 then
              (S29 k q2.2.1.1 q2.2.1.2.1 2).bind fun q13 =>
              ap l_ ([(10, q13.1.1, 0, 0)] : List (Int × Int × Int × Int)) 32 fun r14 =>
              g3 q13.2.1.1 q13.2.1.2.1 r14 (IntKind.i64.wrap (i - 1))
            else
              (bif q2.1.1 == 5 then
                (S29 k q2.2.1.1 q2.2.1.2.1 2).bind fun q15 =>
                ap l_ ([(10, q15.1.1, 0, 0)] : List (Int × Int × Int × Int)) 32 fun r16 =>
                g3 q15.2.1.1 q15.2.1.2.1 r16 (IntKind.i64.wrap (i - 1))
              else
                (bif q2.1.1 == 6 then
                  ap l_ ([(11, 0, 0, 0)] : List (Int × Int × Int × Int)) 32 fun r17 =>
                  g3 q2.2.1.1 q2.2.1.2.1 r17 (IntKind.i64.wrap (i - 1))
                else
                  ap l_ ([q1.1.1] : List (Int × Int × Int × Int)) 32 fun r18 =>
                  g3 q2.2.1.1 q2.2.1.2.1 r18 (IntKind.i64.wrap (i - 1)))))))))
  else
    ap l_ ([(0, 0, 0, 0)] : List (Int × Int × Int × Int)) 32 fun r19 =>
    some ((r19, ()), (p2, p3, ()), ()))
noncomputable def b16_3 (k : Nat) (g : ((((List Int) × Int × Unit) × Unit) × Unit × (List (Int × Int × Int × Int)) × Int × Unit) → Option (((List (Int × Int × Int × Int)) × Unit) × ((List Int) × Int × Unit) × Unit)) (d : (((List Int) × Int × Unit) × Unit) × Unit × (List (Int × Int × Int × Int)) × Int × Unit) : Option (((List (Int × Int × Int × Int)) × Unit) × ((List Int) × Int × Unit) × Unit) := l16_3 k (fun p2 p3 l_ i => g (((p2, p3, ()), ()), (), l_, i, ())) d.1.1.1 d.1.1.2.1 d.2.2.1 d.2.2.2.1
noncomputable def L16_3 (k : Nat) (j : Nat) (p2 : List Int) (p3 : Int) (l_ : List (Int × Int × Int × Int)) (i : Int) : Option (((List (Int × Int × Int × Int)) × Unit) × ((List Int) × Int × Unit) × Unit) := iter (R := ((List (Int × Int × Int × Int)) × Unit) × ((List Int) × Int × Unit) × Unit) c16_L3 (b16_3 k) j (((p2, p3, ()), ()), (), l_, i, ())
theorem L16_3_s (k : Nat) (j : Nat) (p2 : List Int) (p3 : Int) (l_ : List (Int × Int × Int × Int)) (i : Int) : L16_3 k (j + 1) p2 p3 l_ i = l16_3 k (L16_3 k j) p2 p3 l_ i := iter_succ _ _ _ _
noncomputable def S16 (k : Nat) (p : List Int) (p1 : Int) : Option (((List (Int × Int × Int × Int)) × Unit) × ((List Int) × Int × Unit) × Unit) :=
  (S29 k p p1 12).bind fun q0 =>
  L16_3 k k q0.2.1.1 q0.2.1.2.1 ([] : List (Int × Int × Int × Int)) q0.1.1
noncomputable def E16 : Env := tab.env (lk [(29, F29), (31, F31)]) (hintL [(3, 2)])
theorem E16_ok : EnvOK Try.prog E16 := envOK_of tabOK _ _ (allFn_lk (l := [(29, F29), (31, F31)]) ⟨ok29, ok31, trivial⟩)
noncomputable def B16 (k : Nat) : Tbl (RD R16 × MD P16) := (.loop 3 c16_L3 (b16_3 k) (fun g => .nil) .nil)
noncomputable def F16 : Fn := ⟨P16, R16, fun k x => S16 k x.1.1 x.1.2.1⟩
theorem ok16 : FnOK Try.prog 16 F16 := evalF_ok (E := E16) (T := B16) E16_ok mix Try.func16 rfl (by kernel_rfl) (by kernel_rfl) (fun k => by kernel_rfl) (fun k x => by kernel_rfl)
/-! ### 51: 51 (foliot/foliotref1.places).has -/
noncomputable abbrev P51 : List PT := [.val ⟨true, (.int .i64), false⟩, .val ⟨false, (.int .i64), false⟩]
noncomputable abbrev R51 : List RT := [.val ⟨false, .bool, true⟩]
noncomputable def S51 (k : Nat) (f : Int) (a : Int) : Option ((Bool × Unit) × Unit) :=
  (bif decide (a ≥ 0) then
    some ((decide (a < f), ()), ())
  else
    some ((false, ()), ()))
noncomputable def E51 : Env := tab.env (lk []) (hintL [])
theorem E51_ok : EnvOK Try.prog E51 := envOK_of tabOK _ _ (fun f F h => by cases h)
noncomputable def B51 (k : Nat) : Tbl (RD R51 × MD P51) := .nil
noncomputable def F51 : Fn := ⟨P51, R51, fun k x => S51 k x.1 x.2.1⟩
theorem ok51 : FnOK Try.prog 51 F51 := evalF_ok (E := E51) (T := B51) E51_ok mix Try.func51 rfl (by kernel_rfl) (by kernel_rfl) (fun k => by kernel_rfl) (fun k x => by kernel_rfl)
/-! ### 32: 32 foliot/foliotref1.MayInst -/
noncomputable abbrev P32 : List PT := [.val ⟨true, (.pair (.int .i64) (.pair (.int .i64) (.pair (.int .i64) (.int .i64)))), false⟩]
noncomputable abbrev R32 : List RT := [.val ⟨false, .bool, true⟩]
noncomputable def S32 (k : Nat) (i : Int × Int × Int × Int) : Option ((Bool × Unit) × Unit) :=
  (bif i.1 == 0 then
    (bif i.2.1 == 0 then
      (bif i.2.2.1 == 0 then
        some ((i.2.2.2 == 0, ()), ())
      else
        some ((false, ()), ()))
    else
      some ((false, ()), ()))
  else
    (bif i.1 == 11 then
      (bif i.2.1 == 0 then
        (bif i.2.2.1 == 0 then
          some ((i.2.2.2 == 0, ()), ())
        else
          some ((false, ()), ()))
      else
        some ((false, ()), ()))
    else
      (bif i.1 == 1 then
        (S51 k 8 i.2.1).bind fun q0 =>
        (bif q0.1.1 then
          (bif i.2.2.1 == 0 then
            (bif decide (i.2.2.2 ≥ (-2147483648)) then
              some ((decide (i.2.2.2 < 2147483648), ()), ())
            else
              some ((false, ()), ()))
          else
            some ((false, ()), ()))
        else
          some ((false, ()), ()))
      else
        (bif i.1 == 2 then
          (S51 k 8 i.2.1).bind fun q1 =>
          (bif q1.1.1 then
            (S51 k 8 i.2.2.1).bind fun q2 =>
            (bif q2.1.1 then
              some ((i.2.2.2 == 0, ()), ())
            else
              some ((false, ()), ()))
          else
            some ((false, ()), ()))
        else
          (bif i.1 == 3 then
            (S51 k 8 i.2.1).bind fun q3 =>
            (bif q3.1.1 then
              (S51 k 8 i.2.2.1).bind fun q4 =>
              (bif q4.1.1 then
                some ((i.2.2.2 == 0, ()), ())
              else
                some ((false, ()), ()))
            else
              some ((false, ()), ()))
          else
            (bif i.1 == 4 then
              (S51 k 8 i.2.1).bind fun q5 =>
              (bif q5.1.1 then
                (S51 k 8 i.2.2.1).bind fun q6 =>
                (bif q6.1.1 then
                  some ((i.2.2.2 == 0, ()), ())
                else
                  some ((false, ()), ()))
              else
                some ((false, ()), ()))
            else
              (bif i.1 == 5 then
                (S51 k 8 i.2.1).bind fun q7 =>
                (bif q7.1.1 then
                  (bif i.2.2.1 == 0 then
                    (bif decide (i.2.2.2 ≥ (-63)) then
                      some ((decide (i.2.2.2 ≤ 63), ()), ())
                    else
                      some ((false, ()), ()))
                  else
                    some ((false, ()), ()))
                else
                  some ((false, ()), ()))
              else
                (bif i.1 == 6 then
                  (S51 k 8 i.2.1).bind fun q8 =>
                  (bif q8.1.1 then
                    (bif i.2.2.1 == 0 then
                      (bif decide (i.2.2.2 ≥ 1) then
                        some ((decide (i.2.2.2 ≤ 64), ()), ())
                      else
                        some ((false, ()), ()))
                    else
                      some ((false, ()), ()))
                  else
                    some ((false, ()), ()))
                else
                  (bif i.1 == 7 then
                    (S51 k 8 i.2.1).bind fun q9 =>
                    (bif q9.1.1 then
                      (bif i.2.2.1 == 0 then
                        (bif decide (i.2.2.2 ≥ 1) then
                          some ((decide (i.2.2.2 ≤ 24), ()), ())
                        else
                          some ((false, ()), ()))
                      else
                        some ((false, ()), ()))
                    else
                      some ((false, ()), ()))
                  else
                    (bif i.1 == 8 then
                      (bif i.2.1 == 0 then
                        (bif decide (i.2.2.1 ≥ 1) then
                          (bif decide (i.2.2.1 ≤ 24) then
                            (bif decide (i.2.2.2 ≥ 1) then
                              some ((decide (i.2.2.2 ≤ 20), ()), ())
                            else
                              some ((false, ()), ()))
                          else
                            some ((false, ()), ()))
                        else
                          some ((false, ()), ()))
                      else
                        some ((false, ()), ()))
                    else
                      (bif i.1 == 9 then
                        (bif decide (i.2.1 ≥ 0) then
                          (bif decide (i.2.1 < 4) then
                            (bif i.2.2.1 == 0 then
                              some ((i.2.2.2 == 0, ()), ())
                            else
                              some ((false, ()), ()))
                          else
                            some ((false, ()), ()))
                        else
                          some ((false, ()), ()))
                      else
                        (bif i.1 == 10 then
                          (bif decide (i.2.1 ≥ 0) then
                            (bif decide (i.2.1 < 4) then
                              (bif i.2.2.1 == 0 then
                                some ((i.2.2.2 == 0, ()), ())
                              else
                                some ((false, ()), ()))
                            else
                              some ((false, ()), ()))
                          else
                            some ((false, ()), ()))
                        else
                          some ((false, ()), ())))))))))))))
noncomputable def E32 : Env := tab.env (lk [(51, F51)]) (hintL [])
theorem E32_ok : EnvOK Try.prog E32 := envOK_of tabOK _ _ (allFn_lk (l := [(51, F51)]) ⟨ok51, trivial⟩)
noncomputable def B32 (k : Nat) : Tbl (RD R32 × MD P32) := .nil
noncomputable def F32 : Fn := ⟨P32, R32, fun k x => S32 k x.1⟩
theorem ok32 : FnOK Try.prog 32 F32 := evalF_ok (E := E32) (T := B32) E32_ok mix Try.func32 rfl (by kernel_rfl) (by kernel_rfl) (fun k => by kernel_rfl) (fun k x => by kernel_rfl)
/-! ### 33: 33 foliot/foliotref1.areas -/
noncomputable abbrev P33 : List PT := [.val ⟨false, (.sl 41 (.pair (.int .i64) (.pair (.int .i64) (.pair (.int .i64) (.int .i64))))), false⟩]
noncomputable abbrev R33 : List RT := [.val ⟨false, (.sl 68 (.pair (.int .i64) (.pair (.int .i64) (.pair (.int .i64) .bool)))), true⟩]
noncomputable abbrev c33_L3 : Cut := ⟨[0, 3, 4], [.cell (.sl 41 (.pair (.int .i64) (.pair (.int .i64) (.pair (.int .i64) (.int .i64))))), .own 68 (.pair (.int .i64) (.pair (.int .i64) (.pair (.int .i64) .bool))), .cell (.int .i64)], [], 49⟩
noncomputable def l33_3 (k : Nat) (g3 : (List (Int × Int × Int × Int)) → (List (Int × Int × Int × Bool)) → Int → Option (((List (Int × Int × Int × Bool)) × Unit) × Unit)) (l_1 : List (Int × Int × Int × Int)) (out : List (Int × Int × Int × Bool)) (i : Int) : Option (((List (Int × Int × Int × Bool)) × Unit) × Unit) :=
  (bif decide (i < (l_1.length : Int)) then
    ix l_1 i <|
    (bif (rd l_1 i (0, 0, 0, 0)).1 == 7 then
      ix l_1 i <|
      ap out ([(IntKind.i64.wrap (i + 1), IntKind.i64.wrap (i + (rd l_1 i (0, 0, 0, 0)).2.2.2), i, false)] : List (Int × Int × Int × Bool)) 32 fun r0 =>
      g3 l_1 r0 (IntKind.i64.wrap (i + 1))
    else
      (bif (rd l_1 i (0, 0, 0, 0)).1 == 8 then
        ix l_1 i <|
        ap out ([(IntKind.i64.wrap (i + 1), IntKind.i64.wrap (i + (rd l_1 i (0, 0, 0, 0)).2.2.1), i, true)] : List (Int × Int × Int × Bool)) 32 fun r1 =>
        g3 l_1 r1 (IntKind.i64.wrap (i + 1))
      else
        g3 l_1 out (IntKind.i64.wrap (i + 1))))
  else
    some ((out, ()), ()))
noncomputable def b33_3 (k : Nat) (g : ((Unit) × (List (Int × Int × Int × Int)) × (List (Int × Int × Int × Bool)) × Int × Unit) → Option (((List (Int × Int × Int × Bool)) × Unit) × Unit)) (d : (Unit) × (List (Int × Int × Int × Int)) × (List (Int × Int × Int × Bool)) × Int × Unit) : Option (((List (Int × Int × Int × Bool)) × Unit) × Unit) := l33_3 k (fun l_1 out i => g ((), l_1, out, i, ())) d.2.1 d.2.2.1 d.2.2.2.1
noncomputable def L33_3 (k : Nat) (j : Nat) (l_1 : List (Int × Int × Int × Int)) (out : List (Int × Int × Int × Bool)) (i : Int) : Option (((List (Int × Int × Int × Bool)) × Unit) × Unit) := iter (R := ((List (Int × Int × Int × Bool)) × Unit) × Unit) c33_L3 (b33_3 k) j ((), l_1, out, i, ())
theorem L33_3_s (k : Nat) (j : Nat) (l_1 : List (Int × Int × Int × Int)) (out : List (Int × Int × Int × Bool)) (i : Int) : L33_3 k (j + 1) l_1 out i = l33_3 k (L33_3 k j) l_1 out i := iter_succ _ _ _ _
noncomputable def S33 (k : Nat) (l_ : List (Int × Int × Int × Int)) : Option (((List (Int × Int × Int × Bool)) × Unit) × Unit) :=
  L33_3 k k l_ ([] : List (Int × Int × Int × Bool)) 0
noncomputable def E33 : Env := tab.env (lk []) (hintL [(3, 2)])
theorem E33_ok : EnvOK Try.prog E33 := envOK_of tabOK _ _ (fun f F h => by cases h)
noncomputable def B33 (k : Nat) : Tbl (RD R33 × MD P33) := (.loop 3 c33_L3 (b33_3 k) (fun g => .nil) .nil)
noncomputable def F33 : Fn := ⟨P33, R33, fun k x => S33 k x.1⟩
theorem ok33 : FnOK Try.prog 33 F33 := evalF_ok (E := E33) (T := B33) E33_ok mix Try.func33 rfl (by kernel_rfl) (by kernel_rfl) (fun k => by kernel_rfl) (fun k x => by kernel_rfl)
/-! ### 34: 34 (foliot/foliotref1.area).has -/
noncomputable abbrev P34 : List PT := [.val ⟨true, (.pair (.int .i64) (.pair (.int .i64) (.pair (.int .i64) .bool))), false⟩, .val ⟨false, (.int .i64), false⟩]
noncomputable abbrev R34 : List RT := [.val ⟨false, .bool, true⟩]
noncomputable def S34 (k : Nat) (a : Int × Int × Int × Bool) (i : Int) : Option ((Bool × Unit) × Unit) :=
  (bif decide (a.1 ≤ i) then
    some ((decide (i ≤ a.2.1), ()), ())
  else
    some ((false, ()), ()))
noncomputable def E34 : Env := tab.env (lk []) (hintL [])
theorem E34_ok : EnvOK Try.prog E34 := envOK_of tabOK _ _ (fun f F h => by cases h)
noncomputable def B34 (k : Nat) : Tbl (RD R34 × MD P34) := .nil
noncomputable def F34 : Fn := ⟨P34, R34, fun k x => S34 k x.1 x.2.1⟩
theorem ok34 : FnOK Try.prog 34 F34 := evalF_ok (E := E34) (T := B34) E34_ok mix Try.func34 rfl (by kernel_rfl) (by kernel_rfl) (fun k => by kernel_rfl) (fun k x => by kernel_rfl)
end Go.Proofs.Ytjnnjciedbgmiaa.Ab
