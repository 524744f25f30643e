import Derived.Test.YtjnnjciedbgmiaaAbF0
/- Contracts, printed by this session's own program gen.py. -/
set_option linter.unusedVariables false
set_option linter.unusedSimpArgs false
set_option maxRecDepth 100000
namespace Go.Proofs.Ytjnnjciedbgmiaa.Ab
open Go.RowKit Go.Proofs.YtjnnjciedbgmiaaW.PrintWords
/-! ### 41: 41 foliot/shape.nested -/
noncomputable abbrev P41 : List PT := [.val ⟨false, (.sl 41 (.pair (.int .i64) (.pair (.int .i64) (.pair (.int .i64) (.int .i64))))), false⟩]
noncomputable abbrev R41 : List RT := [.val ⟨false, .bool, true⟩]
noncomputable abbrev c41_L15 : Cut := ⟨[0, 3, 4, 6, 9, 15, 16, 17], [.cell (.sl 41 (.pair (.int .i64) (.pair (.int .i64) (.pair (.int .i64) (.int .i64))))), .cell (.sl 91 (.pair (.int .i64) (.pair (.int .i64) (.pair (.int .i64) .bool)))), .own 3 (.int .i64), .box 91 [.cell (.int .i64), .cell (.int .i64), .cell (.int .i64), .cell .bool], .cell (.int .i64), .cell (.sl 91 (.pair (.int .i64) (.pair (.int .i64) (.pair (.int .i64) .bool)))), .cell (.int .i64), .cell (.int .i64)], [], 84⟩
noncomputable def l41_15 (k : Nat) (g4 : (List (Int × Int × Int × Int)) → (List (Int × Int × Int × Bool)) → (List Int) → (List (Int × Int × Int × Bool)) → Int → Int → Option ((Bool × Unit) × Unit)) (g15 : (List (Int × Int × Int × Int)) → (List (Int × Int × Int × Bool)) → (List Int) → Int → Int → Int → Bool → Int → (List (Int × Int × Int × Bool)) → Int → Int → Option ((Bool × Unit) × Unit)) (l_3 : List (Int × Int × Int × Int)) (all2 : List (Int × Int × Int × Bool)) (around2 : List Int) (p4 : Int) (p5 : Int) (p6 : Int) (p7 : Bool) (i : Int) (t15_2 : List (Int × Int × Int × Bool)) (t16_2 : Int) (t17_2 : Int) : Option ((Bool × Unit) × Unit) :=
  (bif p7 then
    (bif decide (i ≤ p5) then
      ix around2 i <|
      ix around2 i <|
      g15 l_3 all2 (upd around2 i (IntKind.i64.wrap ((rd around2 i 0) + 1))) p4 p5 p6 p7 (IntKind.i64.wrap (i + 1)) t15_2 t16_2 t17_2
    else
      g4 l_3 all2 around2 t15_2 t16_2 (IntKind.i64.wrap (t17_2 + 1)))
  else
    g4 l_3 all2 around2 t15_2 t16_2 (IntKind.i64.wrap (t17_2 + 1)))
noncomputable def b41_15 (k : Nat) (g4 : (List (Int × Int × Int × Int)) → (List (Int × Int × Int × Bool)) → (List Int) → (List (Int × Int × Int × Bool)) → Int → Int → Option ((Bool × Unit) × Unit)) (g : ((Unit) × (List (Int × Int × Int × Int)) × (List (Int × Int × Int × Bool)) × (List Int) × (Int × Int × Int × Bool × Unit) × Int × (List (Int × Int × Int × Bool)) × Int × Int × Unit) → Option ((Bool × Unit) × Unit)) (d : (Unit) × (List (Int × Int × Int × Int)) × (List (Int × Int × Int × Bool)) × (List Int) × (Int × Int × Int × Bool × Unit) × Int × (List (Int × Int × Int × Bool)) × Int × Int × Unit) : Option ((Bool × Unit) × Unit) := l41_15 k g4 (fun l_3 all2 around2 p4 p5 p6 p7 i t15_2 t16_2 t17_2 => g ((), l_3, all2, around2, (p4, p5, p6, p7, ()), i, t15_2, t16_2, t17_2, ())) d.2.1 d.2.2.1 d.2.2.2.1 d.2.2.2.2.1.1 d.2.2.2.2.1.2.1 d.2.2.2.2.1.2.2.1 d.2.2.2.2.1.2.2.2.1 d.2.2.2.2.2.1 d.2.2.2.2.2.2.1 d.2.2.2.2.2.2.2.1 d.2.2.2.2.2.2.2.2.1
noncomputable def L41_15 (k : Nat) (g4 : (List (Int × Int × Int × Int)) → (List (Int × Int × Int × Bool)) → (List Int) → (List (Int × Int × Int × Bool)) → Int → Int → Option ((Bool × Unit) × Unit)) (j : Nat) (l_3 : List (Int × Int × Int × Int)) (all2 : List (Int × Int × Int × Bool)) (around2 : List Int) (p4 : Int) (p5 : Int) (p6 : Int) (p7 : Bool) (i : Int) (t15_2 : List (Int × Int × Int × Bool)) (t16_2 : Int) (t17_2 : Int) : Option ((Bool × Unit) × Unit) := iter (R := (Bool × Unit) × Unit) c41_L15 (b41_15 k g4) j ((), l_3, all2, around2, (p4, p5, p6, p7, ()), i, t15_2, t16_2, t17_2, ())
theorem L41_15_s (k : Nat) (g4 : (List (Int × Int × Int × Int)) → (List (Int × Int × Int × Bool)) → (List Int) → (List (Int × Int × Int × Bool)) → Int → Int → Option ((Bool × Unit) × Unit)) (j : Nat) (l_3 : List (Int × Int × Int × Int)) (all2 : List (Int × Int × Int × Bool)) (around2 : List Int) (p4 : Int) (p5 : Int) (p6 : Int) (p7 : Bool) (i : Int) (t15_2 : List (Int × Int × Int × Bool)) (t16_2 : Int) (t17_2 : Int) : L41_15 k g4 (j + 1) l_3 all2 around2 p4 p5 p6 p7 i t15_2 t16_2 t17_2 = l41_15 k g4 (fun l_3 all2 around2 p4 p5 p6 p7 i t15_2 t16_2 t17_2 => L41_15 k g4 j l_3 all2 around2 p4 p5 p6 p7 i t15_2 t16_2 t17_2) l_3 all2 around2 p4 p5 p6 p7 i t15_2 t16_2 t17_2 := iter_succ _ _ _ _
noncomputable abbrev c41_L9 : Cut := ⟨[0, 3, 4, 6, 15, 16, 17, 27, 28, 29], [.cell (.sl 41 (.pair (.int .i64) (.pair (.int .i64) (.pair (.int .i64) (.int .i64))))), .cell (.sl 91 (.pair (.int .i64) (.pair (.int .i64) (.pair (.int .i64) .bool)))), .own 3 (.int .i64), .box 91 [.cell (.int .i64), .cell (.int .i64), .cell (.int .i64), .cell .bool], .cell (.sl 91 (.pair (.int .i64) (.pair (.int .i64) (.pair (.int .i64) .bool)))), .cell (.int .i64), .cell (.int .i64), .cell (.sl 91 (.pair (.int .i64) (.pair (.int .i64) (.pair (.int .i64) .bool)))), .cell (.int .i64), .cell (.int .i64)], [], 84⟩
noncomputable def l41_9 (k : Nat) (g4 : (List (Int × Int × Int × Int)) → (List (Int × Int × Int × Bool)) → (List Int) → (List (Int × Int × Int × Bool)) → Int → Int → Option ((Bool × Unit) × Unit)) (g9 : (List (Int × Int × Int × Int)) → (List (Int × Int × Int × Bool)) → (List Int) → Int → Int → Int → Bool → (List (Int × Int × Int × Bool)) → Int → Int → (List (Int × Int × Int × Bool)) → Int → Int → Option ((Bool × Unit) × Unit)) (l_2 : List (Int × Int × Int × Int)) (all1 : List (Int × Int × Int × Bool)) (around1 : List Int) (p : Int) (p1 : Int) (p2 : Int) (p3 : Bool) (t15_1 : List (Int × Int × Int × Bool)) (t16_1 : Int) (t17_1 : Int) (t27 : List (Int × Int × Int × Bool)) (t28 : Int) (t29 : Int) : Option ((Bool × Unit) × Unit) :=
  (bif decide (t29 < t28) then
    ix t27 t29 <|
    (S55 k (rd t27 t29 (0, 0, 0, false)) p2).bind fun q1 =>
    (bif q1.1.1 then
      (S56 k (p, p1, p2, p3) (rd t27 t29 (0, 0, 0, false))).bind fun q2 =>
      (bif !q2.1.1 then
        some ((false, ()), ())
      else
        (S57 k (p, p1, p2, p3) (rd t27 t29 (0, 0, 0, false))).bind fun q3 =>
        (bif !q3.1.1 then
          (S56 k (p, p1, p2, p3) (rd t27 t29 (0, 0, 0, false))).bind fun q4 =>
          (bif !q4.1.1 then
            (S56 k (rd t27 t29 (0, 0, 0, false)) (p, p1, p2, p3)).bind fun q5 =>
            (bif !q5.1.1 then
              some ((false, ()), ())
            else
              g9 l_2 all1 around1 p p1 p2 p3 t15_1 t16_1 t17_1 t27 t28 (IntKind.i64.wrap (t29 + 1)))
          else
            g9 l_2 all1 around1 p p1 p2 p3 t15_1 t16_1 t17_1 t27 t28 (IntKind.i64.wrap (t29 + 1)))
        else
          g9 l_2 all1 around1 p p1 p2 p3 t15_1 t16_1 t17_1 t27 t28 (IntKind.i64.wrap (t29 + 1))))
    else
      (S57 k (p, p1, p2, p3) (rd t27 t29 (0, 0, 0, false))).bind fun q6 =>
      (bif !q6.1.1 then
        (S56 k (p, p1, p2, p3) (rd t27 t29 (0, 0, 0, false))).bind fun q7 =>
        (bif !q7.1.1 then
          (S56 k (rd t27 t29 (0, 0, 0, false)) (p, p1, p2, p3)).bind fun q8 =>
          (bif !q8.1.1 then
            some ((false, ()), ())
          else
            g9 l_2 all1 around1 p p1 p2 p3 t15_1 t16_1 t17_1 t27 t28 (IntKind.i64.wrap (t29 + 1)))
        else
          g9 l_2 all1 around1 p p1 p2 p3 t15_1 t16_1 t17_1 t27 t28 (IntKind.i64.wrap (t29 + 1)))
      else
        g9 l_2 all1 around1 p p1 p2 p3 t15_1 t16_1 t17_1 t27 t28 (IntKind.i64.wrap (t29 + 1))))
  else
    L41_15 k g4 k l_2 all1 around1 p p1 p2 p3 p t15_1 t16_1 t17_1)
noncomputable def b41_9 (k : Nat) (g4 : (List (Int × Int × Int × Int)) → (List (Int × Int × Int × Bool)) → (List Int) → (List (Int × Int × Int × Bool)) → Int → Int → Option ((Bool × Unit) × Unit)) (g : ((Unit) × (List (Int × Int × Int × Int)) × (List (Int × Int × Int × Bool)) × (List Int) × (Int × Int × Int × Bool × Unit) × (List (Int × Int × Int × Bool)) × Int × Int × (List (Int × Int × Int × Bool)) × Int × Int × Unit) → Option ((Bool × Unit) × Unit)) (d : (Unit) × (List (Int × Int × Int × Int)) × (List (Int × Int × Int × Bool)) × (List Int) × (Int × Int × Int × Bool × Unit) × (List (Int × Int × Int × Bool)) × Int × Int × (List (Int × Int × Int × Bool)) × Int × Int × Unit) : Option ((Bool × Unit) × Unit) := l41_9 k g4 (fun l_2 all1 around1 p p1 p2 p3 t15_1 t16_1 t17_1 t27 t28 t29 => g ((), l_2, all1, around1, (p, p1, p2, p3, ()), t15_1, t16_1, t17_1, t27, t28, t29, ())) d.2.1 d.2.2.1 d.2.2.2.1 d.2.2.2.2.1.1 d.2.2.2.2.1.2.1 d.2.2.2.2.1.2.2.1 d.2.2.2.2.1.2.2.2.1 d.2.2.2.2.2.1 d.2.2.2.2.2.2.1 d.2.2.2.2.2.2.2.1 d.2.2.2.2.2.2.2.2.1 d.2.2.2.2.2.2.2.2.2.1 d.2.2.2.2.2.2.2.2.2.2.1
noncomputable def L41_9 (k : Nat) (g4 : (List (Int × Int × Int × Int)) → (List (Int × Int × Int × Bool)) → (List Int) → (List (Int × Int × Int × Bool)) → Int → Int → Option ((Bool × Unit) × Unit)) (j : Nat) (l_2 : List (Int × Int × Int × Int)) (all1 : List (Int × Int × Int × Bool)) (around1 : List Int) (p : Int) (p1 : Int) (p2 : Int) (p3 : Bool) (t15_1 : List (Int × Int × Int × Bool)) (t16_1 : Int) (t17_1 : Int) (t27 : List (Int × Int × Int × Bool)) (t28 : Int) (t29 : Int) : Option ((Bool × Unit) × Unit) := iter (R := (Bool × Unit) × Unit) c41_L9 (b41_9 k g4) j ((), l_2, all1, around1, (p, p1, p2, p3, ()), t15_1, t16_1, t17_1, t27, t28, t29, ())
theorem L41_9_s (k : Nat) (g4 : (List (Int × Int × Int × Int)) → (List (Int × Int × Int × Bool)) → (List Int) → (List (Int × Int × Int × Bool)) → Int → Int → Option ((Bool × Unit) × Unit)) (j : Nat) (l_2 : List (Int × Int × Int × Int)) (all1 : List (Int × Int × Int × Bool)) (around1 : List Int) (p : Int) (p1 : Int) (p2 : Int) (p3 : Bool) (t15_1 : List (Int × Int × Int × Bool)) (t16_1 : Int) (t17_1 : Int) (t27 : List (Int × Int × Int × Bool)) (t28 : Int) (t29 : Int) : L41_9 k g4 (j + 1) l_2 all1 around1 p p1 p2 p3 t15_1 t16_1 t17_1 t27 t28 t29 = l41_9 k g4 (fun l_2 all1 around1 p p1 p2 p3 t15_1 t16_1 t17_1 t27 t28 t29 => L41_9 k g4 j l_2 all1 around1 p p1 p2 p3 t15_1 t16_1 t17_1 t27 t28 t29) l_2 all1 around1 p p1 p2 p3 t15_1 t16_1 t17_1 t27 t28 t29 := iter_succ _ _ _ _
noncomputable abbrev c41_L4 : Cut := ⟨[0, 3, 4, 15, 16, 17], [.cell (.sl 41 (.pair (.int .i64) (.pair (.int .i64) (.pair (.int .i64) (.int .i64))))), .cell (.sl 91 (.pair (.int .i64) (.pair (.int .i64) (.pair (.int .i64) .bool)))), .own 3 (.int .i64), .cell (.sl 91 (.pair (.int .i64) (.pair (.int .i64) (.pair (.int .i64) .bool)))), .cell (.int .i64), .cell (.int .i64)], [], 84⟩
noncomputable def l41_4 (k : Nat) (g4 : (List (Int × Int × Int × Int)) → (List (Int × Int × Int × Bool)) → (List Int) → (List (Int × Int × Int × Bool)) → Int → Int → Option ((Bool × Unit) × Unit)) (l_1 : List (Int × Int × Int × Int)) (all : List (Int × Int × Int × Bool)) (around : List Int) (t15 : List (Int × Int × Int × Bool)) (t16 : Int) (t17 : Int) : Option ((Bool × Unit) × Unit) :=
  (bif decide (t17 < t16) then
    ix t15 t17 <|
    (bif decide ((rd t15 t17 (0, 0, 0, false)).2.1 ≥ (IntKind.i64.wrap ((l_1.length : Int) - 1))) then
      some ((false, ()), ())
    else
      L41_9 k g4 k l_1 all around (rd t15 t17 (0, 0, 0, false)).1 (rd t15 t17 (0, 0, 0, false)).2.1 (rd t15 t17 (0, 0, 0, false)).2.2.1 (rd t15 t17 (0, 0, 0, false)).2.2.2 t15 t16 t17 all (all.length : Int) 0)
  else
    (S43a k around).bind fun q9 =>
    some ((!q9.1.1, ()), ()))
noncomputable def b41_4 (k : Nat) (g : ((Unit) × (List (Int × Int × Int × Int)) × (List (Int × Int × Int × Bool)) × (List Int) × (List (Int × Int × Int × Bool)) × Int × Int × Unit) → Option ((Bool × Unit) × Unit)) (d : (Unit) × (List (Int × Int × Int × Int)) × (List (Int × Int × Int × Bool)) × (List Int) × (List (Int × Int × Int × Bool)) × Int × Int × Unit) : Option ((Bool × Unit) × Unit) := l41_4 k (fun l_1 all around t15 t16 t17 => g ((), l_1, all, around, t15, t16, t17, ())) d.2.1 d.2.2.1 d.2.2.2.1 d.2.2.2.2.1 d.2.2.2.2.2.1 d.2.2.2.2.2.2.1
noncomputable def L41_4 (k : Nat) (j : Nat) (l_1 : List (Int × Int × Int × Int)) (all : List (Int × Int × Int × Bool)) (around : List Int) (t15 : List (Int × Int × Int × Bool)) (t16 : Int) (t17 : Int) : Option ((Bool × Unit) × Unit) := iter (R := (Bool × Unit) × Unit) c41_L4 (b41_4 k) j ((), l_1, all, around, t15, t16, t17, ())
theorem L41_4_s (k : Nat) (j : Nat) (l_1 : List (Int × Int × Int × Int)) (all : List (Int × Int × Int × Bool)) (around : List Int) (t15 : List (Int × Int × Int × Bool)) (t16 : Int) (t17 : Int) : L41_4 k (j + 1) l_1 all around t15 t16 t17 = l41_4 k (fun l_1 all around t15 t16 t17 => L41_4 k j l_1 all around t15 t16 t17) l_1 all around t15 t16 t17 := iter_succ _ _ _ _
noncomputable def S41 (k : Nat) (l_ : List (Int × Int × Int × Int)) : Option ((Bool × Unit) × Unit) :=
  (S54 k l_).bind fun q0 =>
  mk (l_.length : Int) (l_.length : Int) 8 <|
  L41_4 k k l_ q0.1.1 (List.replicate (l_.length : Int).toNat (0 : Int)) q0.1.1 (q0.1.1.length : Int) 0
noncomputable def E41 : Env := tab.env (lk [(43, F43a), (54, F54), (55, F55), (56, F56), (57, F57)]) (hintL [])
theorem E41_ok : EnvOK Try.prog E41 := envOK_of tabOK _ _ (allFn_lk (l := [(43, F43a), (54, F54), (55, F55), (56, F56), (57, F57)]) ⟨ok43a, ok54, ok55, ok56, ok57, trivial⟩)
noncomputable def B41 (k : Nat) : Tbl (RD R41 × MD P41) := (.loop 4 c41_L4 (b41_4 k) (fun g => (fun (g4 : (List (Int × Int × Int × Int)) → (List (Int × Int × Int × Bool)) → (List Int) → (List (Int × Int × Int × Bool)) → Int → Int → Option ((Bool × Unit) × Unit)) => (.loop 15 c41_L15 (b41_15 k g4) (fun g => .nil) (.loop 9 c41_L9 (b41_9 k g4) (fun g => .nil) .nil))) (fun l_1 all around t15 t16 t17 => g ((), l_1, all, around, t15, t16, t17, ()))) .nil)
noncomputable def F41 : Fn := ⟨P41, R41, fun k x => S41 k x.1⟩
theorem ok41 : FnOK Try.prog 41 F41 := evalF_ok (E := E41) (T := B41) E41_ok mix Try.func41 rfl (by kernel_rfl) (by kernel_rfl) (fun k => by kernel_rfl) (fun k x => by kernel_rfl)
/-! ### 44: 44 foliot/shape.May$3 -/
noncomputable abbrev P44 : List PT := [.val ⟨false, (.int .i64), false⟩, .pv (.ref (.int .i64))]
noncomputable abbrev R44 : List RT := [.val ⟨false, .bool, true⟩]
noncomputable def S44 (k : Nat) (end_ : Int) (x1 : Int) : Option ((Bool × Unit) × Unit) :=
  some ((decide (end_ > x1), ()), ())
noncomputable def E44 : Env := tab.env (lk []) (hintL [])
theorem E44_ok : EnvOK Try.prog E44 := envOK_of tabOK _ _ (fun f F h => by cases h)
noncomputable def B44 (k : Nat) : Tbl (RD R44 × MD P44) := .nil
noncomputable def F44 : Fn := ⟨P44, R44, fun k x => S44 k x.1 x.2.1⟩
theorem ok44 : FnOK Try.prog 44 F44 := evalF_ok (E := E44) (T := B44) E44_ok mix Try.func44 rfl (by kernel_rfl) (by kernel_rfl) (fun k => by kernel_rfl) (fun k x => by kernel_rfl)
/-! ### 59b: 59 slices.IndexFunc[[]int,int] -/
noncomputable abbrev P59b : List PT := [.val ⟨false, (.sl 3 (.int .i64)), false⟩, .pv (.clo 44 [.ref (.int .i64)])]
noncomputable abbrev R59b : List RT := [.val ⟨false, (.int .i64), true⟩]
noncomputable abbrev c59b_L2 : Cut := ⟨[0, 1, 7, 8], [.cell (.sl 3 (.int .i64)), .clo 44 [.ref (.int .i64)], .cell (.int .i64), .cell (.int .i64)], [], 19⟩
noncomputable def l59b_2 (k : Nat) (g2 : (List Int) → Int → Int → Int → Option ((Int × Unit) × Unit)) (s1 : List Int) (f1 : Int) (t7 : Int) (t8 : Int) : Option ((Int × Unit) × Unit) :=
  (bif decide (t8 < t7) then
    ix s1 t8 <|
    (S44 k (rd s1 t8 0) f1).bind fun q0 =>
    (bif q0.1.1 then
      some ((t8, ()), ())
    else
      g2 s1 f1 t7 (IntKind.i64.wrap (t8 + 1)))
  else
    some (((-1), ()), ()))
noncomputable def b59b_2 (k : Nat) (g : ((Unit) × (List Int) × (Int × Unit) × Int × Int × Unit) → Option ((Int × Unit) × Unit)) (d : (Unit) × (List Int) × (Int × Unit) × Int × Int × Unit) : Option ((Int × Unit) × Unit) := l59b_2 k (fun s1 f1 t7 t8 => g ((), s1, (f1, ()), t7, t8, ())) d.2.1 d.2.2.1.1 d.2.2.2.1 d.2.2.2.2.1
noncomputable def L59b_2 (k : Nat) (j : Nat) (s1 : List Int) (f1 : Int) (t7 : Int) (t8 : Int) : Option ((Int × Unit) × Unit) := iter (R := (Int × Unit) × Unit) c59b_L2 (b59b_2 k) j ((), s1, (f1, ()), t7, t8, ())
theorem L59b_2_s (k : Nat) (j : Nat) (s1 : List Int) (f1 : Int) (t7 : Int) (t8 : Int) : L59b_2 k (j + 1) s1 f1 t7 t8 = l59b_2 k (fun s1 f1 t7 t8 => L59b_2 k j s1 f1 t7 t8) s1 f1 t7 t8 := iter_succ _ _ _ _
noncomputable def S59b (k : Nat) (s : List Int) (f : Int) : Option ((Int × Unit) × Unit) :=
  L59b_2 k k s f (s.length : Int) 0
noncomputable def E59b : Env := tab.env (lk [(44, F44)]) (hintL [])
theorem E59b_ok : EnvOK Try.prog E59b := envOK_of tabOK _ _ (allFn_lk (l := [(44, F44)]) ⟨ok44, trivial⟩)
noncomputable def B59b (k : Nat) : Tbl (RD R59b × MD P59b) := (.loop 2 c59b_L2 (b59b_2 k) (fun g => .nil) .nil)
noncomputable def F59b : Fn := ⟨P59b, R59b, fun k x => S59b k x.1 x.2.1.1⟩
theorem ok59b : FnOK Try.prog 59 F59b := evalF_ok (E := E59b) (T := B59b) E59b_ok mix Try.func59 rfl (by kernel_rfl) (by kernel_rfl) (fun k => by kernel_rfl) (fun k x => by kernel_rfl)
/-! ### 43b: 43 slices.ContainsFunc[[]int,int] -/
noncomputable abbrev P43b : List PT := [.val ⟨false, (.sl 3 (.int .i64)), false⟩, .pv (.clo 44 [.ref (.int .i64)])]
noncomputable abbrev R43b : List RT := [.val ⟨false, .bool, true⟩]
noncomputable def S43b (k : Nat) (s : List Int) (f : Int) : Option ((Bool × Unit) × Unit) :=
  (S59b k s f).bind fun q0 =>
  some ((decide (q0.1.1 ≥ 0), ()), ())
noncomputable def E43b : Env := tab.env (lk [(59, F59b)]) (hintL [])
theorem E43b_ok : EnvOK Try.prog E43b := envOK_of tabOK _ _ (allFn_lk (l := [(59, F59b)]) ⟨ok59b, trivial⟩)
noncomputable def B43b (k : Nat) : Tbl (RD R43b × MD P43b) := .nil
noncomputable def F43b : Fn := ⟨P43b, R43b, fun k x => S43b k x.1 x.2.1.1⟩
theorem ok43b : FnOK Try.prog 43 F43b := evalF_ok (E := E43b) (T := B43b) E43b_ok mix Try.func43 rfl (by kernel_rfl) (by kernel_rfl) (fun k => by kernel_rfl) (fun k x => by kernel_rfl)
/-! ### 18: 18 foliot/shape.May -/
noncomputable abbrev P18 : List PT := [.val ⟨false, (.sl 41 (.pair (.int .i64) (.pair (.int .i64) (.pair (.int .i64) (.int .i64))))), false⟩]
noncomputable abbrev R18 : List RT := [.val ⟨false, .bool, true⟩]
noncomputable abbrev c18_L11 : Cut := ⟨[4, 6, 42, 43, 44], [.own 3 (.int .i64), .own 76 (arrT 24 .bool), .cell (.sl 41 (.pair (.int .i64) (.pair (.int .i64) (.pair (.int .i64) (.int .i64))))), .cell (.int .i64), .cell (.int .i64)], [], 66⟩
noncomputable def l18_11 (k : Nat) (g11 : (List Int) → (List (PN Bool 24)) → (List (Int × Int × Int × Int)) → Int → Int → Option ((Bool × Unit) × Unit)) (pairs : List Int) (all : List (PN Bool 24)) (t42 : List (Int × Int × Int × Int)) (t43 : Int) (t44 : Int) : Option ((Bool × Unit) × Unit) :=
  (bif decide (t44 < t43) then
    ix t42 t44 <|
    (bif (rd t42 t44 (0, 0, 0, 0)).1 != 11 then
      g11 pairs all t42 t43 (IntKind.i64.wrap (t44 + 1))
    else
      ix all t44 <|
      (bif !(beqD (arrT 24 .bool) (rd all t44 (prep (α := Bool) 24 false)) (false, false, false, false, false, false, false, false, false, false, false, false, false, false, false, false, false, false, false, false, false, false, false, false)) then
        some ((false, ()), ())
      else
        sx pairs 0 t44 <|
        (S43b k (sub pairs 0 t44) t44).bind fun q5 =>
        (bif q5.1.1 then
          some ((false, ()), ())
        else
          g11 pairs all t42 t43 (IntKind.i64.wrap (t44 + 1)))))
  else
    some ((true, ()), ()))
noncomputable def b18_11 (k : Nat) (g : ((Unit) × (List Int) × (List (PN Bool 24)) × (List (Int × Int × Int × Int)) × Int × Int × Unit) → Option ((Bool × Unit) × Unit)) (d : (Unit) × (List Int) × (List (PN Bool 24)) × (List (Int × Int × Int × Int)) × Int × Int × Unit) : Option ((Bool × Unit) × Unit) := l18_11 k (fun pairs all t42 t43 t44 => g ((), pairs, all, t42, t43, t44, ())) d.2.1 d.2.2.1 d.2.2.2.1 d.2.2.2.2.1 d.2.2.2.2.2.1
noncomputable def L18_11 (k : Nat) (j : Nat) (pairs : List Int) (all : List (PN Bool 24)) (t42 : List (Int × Int × Int × Int)) (t43 : Int) (t44 : Int) : Option ((Bool × Unit) × Unit) := iter (R := (Bool × Unit) × Unit) c18_L11 (b18_11 k) j ((), pairs, all, t42, t43, t44, ())
theorem L18_11_s (k : Nat) (j : Nat) (pairs : List Int) (all : List (PN Bool 24)) (t42 : List (Int × Int × Int × Int)) (t43 : Int) (t44 : Int) : L18_11 k (j + 1) pairs all t42 t43 t44 = l18_11 k (fun pairs all t42 t43 t44 => L18_11 k j pairs all t42 t43 t44) pairs all t42 t43 t44 := iter_succ _ _ _ _
noncomputable def S18 (k : Nat) (l_ : List (Int × Int × Int × Int)) : Option ((Bool × Unit) × Unit) :=
  (bif decide ((l_.length : Int) < 1) then
    some ((false, ()), ())
  else
    (bif decide ((l_.length : Int) > 24) then
      some ((false, ()), ())
    else
      (S36 k l_).bind fun q0 =>
      (bif q0.1.1 then
        some ((false, ()), ())
      else
        (S39a k l_).bind fun q1 =>
        (bif q1.1.1 != (IntKind.i64.wrap ((l_.length : Int) - 1)) then
          some ((false, ()), ())
        else
          (S41 k l_).bind fun q2 =>
          (bif !q2.1.1 then
            some ((false, ()), ())
          else
            (S19 k l_).bind fun q3 =>
            (bif !q3.1.2.1 then
              some ((false, ()), ())
            else
              (S42 k l_).bind fun q4 =>
              L18_11 k k q3.1.1 q4.1.1 l_ (l_.length : Int) 0))))))
noncomputable def E18 : Env := tab.env (lk [(19, F19), (36, F36), (39, F39a), (41, F41), (42, F42), (43, F43b)]) (hintL [])
theorem E18_ok : EnvOK Try.prog E18 := envOK_of tabOK _ _ (allFn_lk (l := [(19, F19), (36, F36), (39, F39a), (41, F41), (42, F42), (43, F43b)]) ⟨ok19, ok36, ok39a, ok41, ok42, ok43b, trivial⟩)
noncomputable def B18 (k : Nat) : Tbl (RD R18 × MD P18) := (.loop 11 c18_L11 (b18_11 k) (fun g => .nil) .nil)
noncomputable def F18 : Fn := ⟨P18, R18, fun k x => S18 k x.1⟩
theorem ok18 : FnOK Try.prog 18 F18 := evalF_ok (E := E18) (T := B18) E18_ok mix Try.func18 rfl (by kernel_rfl) (by kernel_rfl) (fun k => by kernel_rfl) (fun k x => by kernel_rfl)
/-! ### 13: 13 foliot/foliotlaw6.begun -/
noncomputable abbrev P13 : List PT := []
noncomputable abbrev R13 : List RT := [.val ⟨false, .bool, true⟩]
noncomputable def S13 (k : Nat) : Option ((Bool × Unit) × Unit) :=
  (S19 k ([(9, 1, 0, 0), (10, 1, 0, 0), (0, 0, 0, 0)] : List (Int × Int × Int × Int))).bind fun q0 =>
  sx ([(9, 1, 0, 0), (10, 1, 0, 0), (0, 0, 0, 0)] : List (Int × Int × Int × Int)) 0 1 <|
  (S19 k (sub ([(9, 1, 0, 0), (10, 1, 0, 0), (0, 0, 0, 0)] : List (Int × Int × Int × Int)) 0 1)).bind fun q1 =>
  (S18 k ([(9, 1, 0, 0), (10, 1, 0, 0), (0, 0, 0, 0)] : List (Int × Int × Int × Int))).bind fun q2 =>
  (bif q2.1.1 then
    sx ([(9, 1, 0, 0), (10, 1, 0, 0), (0, 0, 0, 0)] : List (Int × Int × Int × Int)) 0 2 <|
    (S18 k (sub ([(9, 1, 0, 0), (10, 1, 0, 0), (0, 0, 0, 0)] : List (Int × Int × Int × Int)) 0 2)).bind fun q3 =>
    (bif !q3.1.1 then
      (bif q0.1.2.1 then
        (bif (q0.1.1.length : Int) == 3 then
          ix q0.1.1 0 <|
          (bif (rd q0.1.1 0 0) == 1 then
            some ((!q1.1.2.1, ()), ())
          else
            some ((false, ()), ()))
        else
          some ((false, ()), ()))
      else
        some ((false, ()), ()))
    else
      some ((false, ()), ()))
  else
    some ((false, ()), ()))
noncomputable def E13 : Env := tab.env (lk [(18, F18), (19, F19)]) (hintL [])
theorem E13_ok : EnvOK Try.prog E13 := envOK_of tabOK _ _ (allFn_lk (l := [(18, F18), (19, F19)]) ⟨ok18, ok19, trivial⟩)
noncomputable def B13 (k : Nat) : Tbl (RD R13 × MD P13) := .nil
noncomputable def F13 : Fn := ⟨P13, R13, fun k x => S13 k ⟩
theorem ok13 : FnOK Try.prog 13 F13 := evalF_ok (E := E13) (T := B13) E13_ok mix Try.func13 rfl (by kernel_rfl) (by kernel_rfl) (fun k => by kernel_rfl) (fun k x => by kernel_rfl)
/-! ### 23: 23 foliot/foliotlaw6.rep -/
noncomputable abbrev P23 : List PT := [.val ⟨false, (.int .i64), false⟩, .val ⟨false, (.int .i64), false⟩]
noncomputable abbrev R23 : List RT := [.val ⟨true, (.pair (.int .i64) (.pair (.int .i64) (.pair (.int .i64) (.int .i64)))), true⟩]
noncomputable def S23 (k : Nat) (b : Int) (n : Int) : Option (((Int × Int × Int × Int) × Unit) × Unit) :=
  some (((8, 0, b, n), ()), ())
noncomputable def E23 : Env := tab.env (lk []) (hintL [])
theorem E23_ok : EnvOK Try.prog E23 := envOK_of tabOK _ _ (fun f F h => by cases h)
noncomputable def B23 (k : Nat) : Tbl (RD R23 × MD P23) := .nil
noncomputable def F23 : Fn := ⟨P23, R23, fun k x => S23 k x.1 x.2.1⟩
theorem ok23 : FnOK Try.prog 23 F23 := evalF_ok (E := E23) (T := B23) E23_ok mix Try.func23 rfl (by kernel_rfl) (by kernel_rfl) (fun k => by kernel_rfl) (fun k x => by kernel_rfl)
/-! ### 24: 24 foliot/foliotlaw6.skip -/
noncomputable abbrev P24 : List PT := [.val ⟨false, (.int .i64), false⟩]
noncomputable abbrev R24 : List RT := [.val ⟨true, (.pair (.int .i64) (.pair (.int .i64) (.pair (.int .i64) (.int .i64)))), true⟩]
noncomputable def S24 (k : Nat) (n : Int) : Option (((Int × Int × Int × Int) × Unit) × Unit) :=
  some (((7, 0, 0, n), ()), ())
noncomputable def E24 : Env := tab.env (lk []) (hintL [])
theorem E24_ok : EnvOK Try.prog E24 := envOK_of tabOK _ _ (fun f F h => by cases h)
noncomputable def B24 (k : Nat) : Tbl (RD R24 × MD P24) := .nil
noncomputable def F24 : Fn := ⟨P24, R24, fun k x => S24 k x.1⟩
theorem ok24 : FnOK Try.prog 24 F24 := evalF_ok (E := E24) (T := B24) E24_ok mix Try.func24 rfl (by kernel_rfl) (by kernel_rfl) (fun k => by kernel_rfl) (fun k x => by kernel_rfl)
/-! ### 5: 5 foliot/foliotlaw6.FormForms -/
noncomputable abbrev P5 : List PT := []
noncomputable abbrev R5 : List RT := [.val ⟨false, .bool, true⟩]
noncomputable abbrev c5_L13 : Cut := ⟨[9, 11], [.own 22 (.sl 41 (.pair (.int .i64) (.pair (.int .i64) (.pair (.int .i64) (.int .i64))))), .cell (.int .i64)], [], 184⟩
noncomputable def l5_13 (k : Nat) (g13 : (List (List (Int × Int × Int × Int))) → Int → Option ((Bool × Unit) × Unit)) (bad1 : List (List (Int × Int × Int × Int))) (i1 : Int) : Option ((Bool × Unit) × Unit) :=
  (bif decide (i1 < (bad1.length : Int)) then
    ix bad1 i1 <|
    (S18 k (rd bad1 i1 [])).bind fun q25 =>
    (bif q25.1.1 then
      some ((false, ()), ())
    else
      g13 bad1 (IntKind.i64.wrap (i1 + 1)))
  else
    mk 25 25 32 <|
    (S18 k (List.replicate 25 ((0, 0, 0, 0) : Int × Int × Int × Int))).bind fun q26 =>
    some ((!q26.1.1, ()), ()))
noncomputable def b5_13 (k : Nat) (g : ((Unit) × (List (List (Int × Int × Int × Int))) × Int × Unit) → Option ((Bool × Unit) × Unit)) (d : (Unit) × (List (List (Int × Int × Int × Int))) × Int × Unit) : Option ((Bool × Unit) × Unit) := l5_13 k (fun bad1 i1 => g ((), bad1, i1, ())) d.2.1 d.2.2.1
noncomputable def L5_13 (k : Nat) (j : Nat) (bad1 : List (List (Int × Int × Int × Int))) (i1 : Int) : Option ((Bool × Unit) × Unit) := iter (R := (Bool × Unit) × Unit) c5_L13 (b5_13 k) j ((), bad1, i1, ())
theorem L5_13_s (k : Nat) (j : Nat) (bad1 : List (List (Int × Int × Int × Int))) (i1 : Int) : L5_13 k (j + 1) bad1 i1 = l5_13 k (fun bad1 i1 => L5_13 k j bad1 i1) bad1 i1 := iter_succ _ _ _ _
noncomputable abbrev c5_L8 : Cut := ⟨[8, 9, 10], [.own 22 (.sl 41 (.pair (.int .i64) (.pair (.int .i64) (.pair (.int .i64) (.int .i64))))), .own 22 (.sl 41 (.pair (.int .i64) (.pair (.int .i64) (.pair (.int .i64) (.int .i64))))), .cell (.int .i64)], [], 184⟩
noncomputable def l5_8 (k : Nat) (g8 : (List (List (Int × Int × Int × Int))) → (List (List (Int × Int × Int × Int))) → Int → Option ((Bool × Unit) × Unit)) (good : List (List (Int × Int × Int × Int))) (bad : List (List (Int × Int × Int × Int))) (i : Int) : Option ((Bool × Unit) × Unit) :=
  (bif decide (i < (good.length : Int)) then
    ix good i <|
    (S18 k (rd good i [])).bind fun q24 =>
    (bif !q24.1.1 then
      some ((false, ()), ())
    else
      g8 good bad (IntKind.i64.wrap (i + 1)))
  else
    L5_13 k k bad 0)
noncomputable def b5_8 (k : Nat) (g : ((Unit) × (List (List (Int × Int × Int × Int))) × (List (List (Int × Int × Int × Int))) × Int × Unit) → Option ((Bool × Unit) × Unit)) (d : (Unit) × (List (List (Int × Int × Int × Int))) × (List (List (Int × Int × Int × Int))) × Int × Unit) : Option ((Bool × Unit) × Unit) := l5_8 k (fun good bad i => g ((), good, bad, i, ())) d.2.1 d.2.2.1 d.2.2.2.1
noncomputable def L5_8 (k : Nat) (j : Nat) (good : List (List (Int × Int × Int × Int))) (bad : List (List (Int × Int × Int × Int))) (i : Int) : Option ((Bool × Unit) × Unit) := iter (R := (Bool × Unit) × Unit) c5_L8 (b5_8 k) j ((), good, bad, i, ())
theorem L5_8_s (k : Nat) (j : Nat) (good : List (List (Int × Int × Int × Int))) (bad : List (List (Int × Int × Int × Int))) (i : Int) : L5_8 k (j + 1) good bad i = l5_8 k (fun good bad i => L5_8 k j good bad i) good bad i := iter_succ _ _ _ _
noncomputable def S5 (k : Nat) : Option ((Bool × Unit) × Unit) :=
  (S13 k).bind fun q0 =>
  (bif !q0.1.1 then
    some ((false, ()), ())
  else
    (S23 k 2 3).bind fun q1 =>
    (S23 k 4 2).bind fun q2 =>
    (S23 k 2 2).bind fun q3 =>
    (S24 k 2).bind fun q4 =>
    (S23 k 1 2).bind fun q5 =>
    (S24 k 1).bind fun q6 =>
    (S23 k 3 2).bind fun q7 =>
    (S24 k 2).bind fun q8 =>
    (S23 k 1 2).bind fun q9 =>
    (S24 k 1).bind fun q10 =>
    (S23 k 1 2).bind fun q11 =>
    (S24 k 1).bind fun q12 =>
    (S23 k 1 2).bind fun q13 =>
    (S24 k 1).bind fun q14 =>
    (S23 k 2 2).bind fun q15 =>
    (S24 k 1).bind fun q16 =>
    (S23 k 1 2).bind fun q17 =>
    (S23 k 1 2).bind fun q18 =>
    (S23 k 5 2).bind fun q19 =>
    (S23 k 4 2).bind fun q20 =>
    (S23 k 3 2).bind fun q21 =>
    (S24 k 2).bind fun q22 =>
    (S23 k 2 2).bind fun q23 =>
    L5_8 k k ([([(0, 0, 0, 0)] : List (Int × Int × Int × Int)), ([(11, 0, 0, 0), (11, 0, 0, 0), (0, 0, 0, 0)] : List (Int × Int × Int × Int)), ([(9, 0, 0, 0), (9, 1, 0, 0), (1, 0, 0, 0), (10, 1, 0, 0), (10, 0, 0, 0), (0, 0, 0, 0)] : List (Int × Int × Int × Int)), ([q1.1.1, (9, 0, 0, 0), (10, 0, 0, 0), (0, 0, 0, 0)] : List (Int × Int × Int × Int)), ([q2.1.1, (1, 0, 0, 0), q3.1.1, (1, 0, 0, 0), (1, 0, 0, 0), (0, 0, 0, 0)] : List (Int × Int × Int × Int)), ([q4.1.1, (9, 0, 0, 0), (10, 0, 0, 0), (11, 0, 0, 0), (0, 0, 0, 0)] : List (Int × Int × Int × Int)), ([(9, 0, 0, 0), q5.1.1, (1, 0, 0, 0), q6.1.1, (1, 0, 0, 0), (10, 0, 0, 0), (0, 0, 0, 0)] : List (Int × Int × Int × Int)), ([q7.1.1, q8.1.1, (1, 0, 0, 0), (1, 0, 0, 0), (0, 0, 0, 0)] : List (Int × Int × Int × Int))] : List (List (Int × Int × Int × Int))) ([[], ([(1, 0, 0, 0)] : List (Int × Int × Int × Int)), ([(0, 0, 0, 0), (0, 0, 0, 0)] : List (Int × Int × Int × Int)), ([(0, 0, 0, 0), (1, 0, 0, 0)] : List (Int × Int × Int × Int)), ([q9.1.1, (0, 0, 0, 0)] : List (Int × Int × Int × Int)), ([q10.1.1, (0, 0, 0, 0)] : List (Int × Int × Int × Int)), ([(9, 0, 0, 0), (0, 0, 0, 0)] : List (Int × Int × Int × Int)), ([(10, 0, 0, 0), (0, 0, 0, 0)] : List (Int × Int × Int × Int)), ([(9, 0, 0, 0), (9, 1, 0, 0), (10, 0, 0, 0), (10, 1, 0, 0), (0, 0, 0, 0)] : List (Int × Int × Int × Int)), ([(9, 0, 0, 0), (9, 0, 0, 0), (10, 0, 0, 0), (10, 0, 0, 0), (0, 0, 0, 0)] : List (Int × Int × Int × Int)), ([(9, 0, 0, 0), (11, 0, 0, 0), (10, 0, 0, 0), (0, 0, 0, 0)] : List (Int × Int × Int × Int)), ([q11.1.1, (11, 0, 0, 0), (0, 0, 0, 0)] : List (Int × Int × Int × Int)), ([q12.1.1, (11, 0, 0, 0), (0, 0, 0, 0)] : List (Int × Int × Int × Int)), ([q13.1.1, (9, 0, 0, 0), (10, 0, 0, 0), (0, 0, 0, 0)] : List (Int × Int × Int × Int)), ([(9, 0, 0, 0), q14.1.1, (10, 0, 0, 0), (1, 0, 0, 0), (0, 0, 0, 0)] : List (Int × Int × Int × Int)), ([q15.1.1, (1, 0, 0, 0), q16.1.1, (1, 0, 0, 0), (0, 0, 0, 0)] : List (Int × Int × Int × Int)), ([q17.1.1, q18.1.1, (1, 0, 0, 0), (0, 0, 0, 0)] : List (Int × Int × Int × Int)), ([q19.1.1, q20.1.1, q21.1.1, (1, 0, 0, 0), (1, 0, 0, 0), (1, 0, 0, 0), (0, 0, 0, 0)] : List (Int × Int × Int × Int)), ([q22.1.1, (1, 0, 0, 0), q23.1.1, (1, 0, 0, 0), (1, 0, 0, 0), (0, 0, 0, 0)] : List (Int × Int × Int × Int)), ([(9, 0, 0, 0), (9, 1, 0, 0), (9, 2, 0, 0), (10, 2, 0, 0), (10, 1, 0, 0), (10, 0, 0, 0), (0, 0, 0, 0)] : List (Int × Int × Int × Int))] : List (List (Int × Int × Int × Int))) 0)
noncomputable def E5 : Env := tab.env (lk [(13, F13), (18, F18), (23, F23), (24, F24)]) (hintL [])
theorem E5_ok : EnvOK Try.prog E5 := envOK_of tabOK _ _ (allFn_lk (l := [(13, F13), (18, F18), (23, F23), (24, F24)]) ⟨ok13, ok18, ok23, ok24, trivial⟩)
noncomputable def B5 (k : Nat) : Tbl (RD R5 × MD P5) := (.loop 13 c5_L13 (b5_13 k) (fun g => .nil) (.loop 8 c5_L8 (b5_8 k) (fun g => .nil) .nil))
noncomputable def F5 : Fn := ⟨P5, R5, fun k x => S5 k ⟩
theorem ok5 : FnOK Try.prog 5 F5 := evalF_ok (E := E5) (T := B5) E5_ok mix Try.func5 rfl (by kernel_rfl) (by kernel_rfl) (fun k => by kernel_rfl) (fun k x => by kernel_rfl)
/-! ### 64: 64 foliot/sat.size -/
noncomputable abbrev P64 : List PT := [.val ⟨false, (.int .i64), false⟩]
noncomputable abbrev R64 : List RT := [.val ⟨false, (.int .u64), true⟩]
noncomputable def S64 (k : Nat) (v : Int) : Option ((Int × Unit) × Unit) :=
  (bif decide (v < 0) then
    some ((IntKind.u64.wrap (0 - (IntKind.u64.wrap v)), ()), ())
  else
    some ((IntKind.u64.wrap v, ()), ()))
noncomputable def E64 : Env := tab.env (lk []) (hintL [])
theorem E64_ok : EnvOK Try.prog E64 := envOK_of tabOK _ _ (fun f F h => by cases h)
noncomputable def B64 (k : Nat) : Tbl (RD R64 × MD P64) := .nil
noncomputable def F64 : Fn := ⟨P64, R64, fun k x => S64 k x.1⟩
theorem ok64 : FnOK Try.prog 64 F64 := evalF_ok (E := E64) (T := B64) E64_ok mix Try.func64 rfl (by kernel_rfl) (by kernel_rfl) (fun k => by kernel_rfl) (fun k x => by kernel_rfl)
/-! ### 63: 63 foliot/sat.times -/
noncomputable abbrev P63 : List PT := [.val ⟨false, (.int .u64), false⟩, .val ⟨false, (.int .u64), false⟩]
noncomputable abbrev R63 : List RT := [.val ⟨false, (.int .u64), true⟩, .val ⟨false, .bool, true⟩]
noncomputable def S63 (k : Nat) (a : Int) (b : Int) : Option ((Int × Bool × Unit) × Unit) :=
  (bif decide ((ishr .u64 a 32) > 0) then
    (bif decide ((ishr .u64 b 32) > 0) then
      some ((0, false, ()), ())
    else
      (bif decide ((ishr .u64 (ior .u64 (IntKind.u64.wrap ((ishr .u64 a 32) * (IntKind.u64.wrap (IntKind.u32.wrap b)))) (IntKind.u64.wrap ((IntKind.u64.wrap (IntKind.u32.wrap a)) * (ishr .u64 b 32)))) 32) > 0) then
        some ((0, false, ()), ())
      else
        some ((IntKind.u64.wrap ((IntKind.u64.wrap ((IntKind.u64.wrap (IntKind.u32.wrap a)) * (IntKind.u64.wrap (IntKind.u32.wrap b)))) + (ishl .u64 (ior .u64 (IntKind.u64.wrap ((ishr .u64 a 32) * (IntKind.u64.wrap (IntKind.u32.wrap b)))) (IntKind.u64.wrap ((IntKind.u64.wrap (IntKind.u32.wrap a)) * (ishr .u64 b 32)))) 32)), decide ((IntKind.u64.wrap ((IntKind.u64.wrap ((IntKind.u64.wrap (IntKind.u32.wrap a)) * (IntKind.u64.wrap (IntKind.u32.wrap b)))) + (ishl .u64 (ior .u64 (IntKind.u64.wrap ((ishr .u64 a 32) * (IntKind.u64.wrap (IntKind.u32.wrap b)))) (IntKind.u64.wrap ((IntKind.u64.wrap (IntKind.u32.wrap a)) * (ishr .u64 b 32)))) 32))) ≥ (IntKind.u64.wrap ((IntKind.u64.wrap (IntKind.u32.wrap a)) * (IntKind.u64.wrap (IntKind.u32.wrap b))))), ()), ())))
  else
    (bif decide ((ishr .u64 (ior .u64 (IntKind.u64.wrap ((ishr .u64 a 32) * (IntKind.u64.wrap (IntKind.u32.wrap b)))) (IntKind.u64.wrap ((IntKind.u64.wrap (IntKind.u32.wrap a)) * (ishr .u64 b 32)))) 32) > 0) then
      some ((0, false, ()), ())
    else
      some ((IntKind.u64.wrap ((IntKind.u64.wrap ((IntKind.u64.wrap (IntKind.u32.wrap a)) * (IntKind.u64.wrap (IntKind.u32.wrap b)))) + (ishl .u64 (ior .u64 (IntKind.u64.wrap ((ishr .u64 a 32) * (IntKind.u64.wrap (IntKind.u32.wrap b)))) (IntKind.u64.wrap ((IntKind.u64.wrap (IntKind.u32.wrap a)) * (ishr .u64 b 32)))) 32)), decide ((IntKind.u64.wrap ((IntKind.u64.wrap ((IntKind.u64.wrap (IntKind.u32.wrap a)) * (IntKind.u64.wrap (IntKind.u32.wrap b)))) + (ishl .u64 (ior .u64 (IntKind.u64.wrap ((ishr .u64 a 32) * (IntKind.u64.wrap (IntKind.u32.wrap b)))) (IntKind.u64.wrap ((IntKind.u64.wrap (IntKind.u32.wrap a)) * (ishr .u64 b 32)))) 32))) ≥ (IntKind.u64.wrap ((IntKind.u64.wrap (IntKind.u32.wrap a)) * (IntKind.u64.wrap (IntKind.u32.wrap b))))), ()), ())))
noncomputable def E63 : Env := tab.env (lk []) (hintL [])
theorem E63_ok : EnvOK Try.prog E63 := envOK_of tabOK _ _ (fun f F h => by cases h)
noncomputable def B63 (k : Nat) : Tbl (RD R63 × MD P63) := .nil
noncomputable def F63 : Fn := ⟨P63, R63, fun k x => S63 k x.1 x.2.1⟩
theorem ok63 : FnOK Try.prog 63 F63 := evalF_ok (E := E63) (T := B63) E63_ok mix Try.func63 rfl (by kernel_rfl) (by kernel_rfl) (fun k => by kernel_rfl) (fun k x => by kernel_rfl)
/-! ### 65: 65 foliot/sat.end -/
noncomputable abbrev P65 : List PT := [.val ⟨false, .bool, false⟩]
noncomputable abbrev R65 : List RT := [.val ⟨false, (.int .i64), true⟩, .val ⟨false, .bool, true⟩]
noncomputable def S65 (k : Nat) (below : Bool) : Option ((Int × Bool × Unit) × Unit) :=
  (bif below then
    some (((-9223372036854775808), false, ()), ())
  else
    some ((9223372036854775807, false, ()), ()))
noncomputable def E65 : Env := tab.env (lk []) (hintL [])
theorem E65_ok : EnvOK Try.prog E65 := envOK_of tabOK _ _ (fun f F h => by cases h)
noncomputable def B65 (k : Nat) : Tbl (RD R65 × MD P65) := .nil
noncomputable def F65 : Fn := ⟨P65, R65, fun k x => S65 k x.1⟩
theorem ok65 : FnOK Try.prog 65 F65 := evalF_ok (E := E65) (T := B65) E65_ok mix Try.func65 rfl (by kernel_rfl) (by kernel_rfl) (fun k => by kernel_rfl) (fun k x => by kernel_rfl)
/-! ### 61: 61 foliot/sat.Mul -/
noncomputable abbrev P61 : List PT := [.val ⟨false, (.int .i64), false⟩, .val ⟨false, (.int .i64), false⟩]
noncomputable abbrev R61 : List RT := [.val ⟨false, (.int .i64), true⟩, .val ⟨false, .bool, true⟩]
noncomputable abbrev c61_J5 : Cut := ⟨[0, 1, 6, 7], [.cell (.int .i64), .cell (.int .i64), .cell .bool, .cell (.int .u64)], [], 45⟩
noncomputable def j61_5 (k : Nat) (a1 : Int) (b1 : Int) (below : Bool) (most : Int) : Option ((Int × Bool × Unit) × Unit) :=
  (S64 k a1).bind fun q0 =>
  (S64 k b1).bind fun q1 =>
  (S63 k q0.1.1 q1.1.1).bind fun q2 =>
  (bif !q2.1.2.1 then
    (S65 k below).bind fun q3 =>
    some ((q3.1.1, q3.1.2.1, ()), ())
  else
    (bif decide (q2.1.1 > most) then
      (S65 k below).bind fun q4 =>
      some ((q4.1.1, q4.1.2.1, ()), ())
    else
      (bif below then
        some ((IntKind.i64.wrap (IntKind.u64.wrap (0 - q2.1.1)), true, ()), ())
      else
        some ((IntKind.i64.wrap q2.1.1, true, ()), ()))))
noncomputable def S61 (k : Nat) (a : Int) (b : Int) : Option ((Int × Bool × Unit) × Unit) :=
  (bif !((decide (a < 0)) == (decide (b < 0))) then
    j61_5 k a b (!((decide (a < 0)) == (decide (b < 0)))) 9223372036854775808
  else
    j61_5 k a b (!((decide (a < 0)) == (decide (b < 0)))) 9223372036854775807)
noncomputable def E61 : Env := tab.env (lk [(63, F63), (64, F64), (65, F65)]) (hintL [])
theorem E61_ok : EnvOK Try.prog E61 := envOK_of tabOK _ _ (allFn_lk (l := [(63, F63), (64, F64), (65, F65)]) ⟨ok63, ok64, ok65, trivial⟩)
noncomputable def B61 (k : Nat) : Tbl (RD R61 × MD P61) := (.join 5 c61_J5 (fun d => j61_5 k d.2.1 d.2.2.1 d.2.2.2.1 d.2.2.2.2.1) .nil)
noncomputable def F61 : Fn := ⟨P61, R61, fun k x => S61 k x.1 x.2.1⟩
theorem ok61 : FnOK Try.prog 61 F61 := evalF_ok (E := E61) (T := B61) E61_ok mix Try.func61 rfl (by kernel_rfl) (by kernel_rfl) (fun k => by kernel_rfl) (fun k x => by kernel_rfl)
/-! ### 48: 48 foliot/cost.times -/
noncomputable abbrev P48 : List PT := [.val ⟨false, (.sl 41 (.pair (.int .i64) (.pair (.int .i64) (.pair (.int .i64) (.int .i64))))), false⟩]
noncomputable abbrev R48 : List RT := [.val ⟨false, (.sl 2 (.int .i64)), true⟩]
noncomputable abbrev c48_L12 : Cut := ⟨[3, 5, 6, 7, 20, 21, 22], [.own 2 (.int .i64), .cell (.int .i64), .box 41 [.cell (.int .i64), .cell (.int .i64), .cell (.int .i64), .cell (.int .i64)], .cell (.int .i64), .cell (.sl 41 (.pair (.int .i64) (.pair (.int .i64) (.pair (.int .i64) (.int .i64))))), .cell (.int .i64), .cell (.int .i64)], [], 55⟩
noncomputable def l48_12 (k : Nat) (g8 : (List Int) → (List (Int × Int × Int × Int)) → Int → Int → Option (((List Int) × Unit) × Unit)) (g12 : (List Int) → Int → Int → Int → Int → Int → Int → (List (Int × Int × Int × Int)) → Int → Int → Option (((List Int) × Unit) × Unit)) (out2 : List Int) (i : Int) (x : Int) (x1 : Int) (x2 : Int) (x3 : Int) (k_ : Int) (t20_1 : List (Int × Int × Int × Int)) (t21_1 : Int) (t22_1 : Int) : Option (((List Int) × Unit) × Unit) :=
  (bif decide (k_ ≤ (IntKind.i64.wrap (i + x2))) then
    ix out2 k_ <|
    (S61 k (rd out2 k_ 0) x3).bind fun q0 =>
    ix out2 k_ <|
    g12 (upd out2 k_ q0.1.1) i x x1 x2 x3 (IntKind.i64.wrap (k_ + 1)) t20_1 t21_1 t22_1
  else
    g8 out2 t20_1 t21_1 (IntKind.i64.wrap (t22_1 + 1)))
noncomputable def b48_12 (k : Nat) (g8 : (List Int) → (List (Int × Int × Int × Int)) → Int → Int → Option (((List Int) × Unit) × Unit)) (g : ((Unit) × (List Int) × Int × (Int × Int × Int × Int × Unit) × Int × (List (Int × Int × Int × Int)) × Int × Int × Unit) → Option (((List Int) × Unit) × Unit)) (d : (Unit) × (List Int) × Int × (Int × Int × Int × Int × Unit) × Int × (List (Int × Int × Int × Int)) × Int × Int × Unit) : Option (((List Int) × Unit) × Unit) := l48_12 k g8 (fun out2 i x x1 x2 x3 k_ t20_1 t21_1 t22_1 => g ((), out2, i, (x, x1, x2, x3, ()), k_, t20_1, t21_1, t22_1, ())) d.2.1 d.2.2.1 d.2.2.2.1.1 d.2.2.2.1.2.1 d.2.2.2.1.2.2.1 d.2.2.2.1.2.2.2.1 d.2.2.2.2.1 d.2.2.2.2.2.1 d.2.2.2.2.2.2.1 d.2.2.2.2.2.2.2.1
noncomputable def L48_12 (k : Nat) (g8 : (List Int) → (List (Int × Int × Int × Int)) → Int → Int → Option (((List Int) × Unit) × Unit)) (j : Nat) (out2 : List Int) (i : Int) (x : Int) (x1 : Int) (x2 : Int) (x3 : Int) (k_ : Int) (t20_1 : List (Int × Int × Int × Int)) (t21_1 : Int) (t22_1 : Int) : Option (((List Int) × Unit) × Unit) := iter (R := ((List Int) × Unit) × Unit) c48_L12 (b48_12 k g8) j ((), out2, i, (x, x1, x2, x3, ()), k_, t20_1, t21_1, t22_1, ())
theorem L48_12_s (k : Nat) (g8 : (List Int) → (List (Int × Int × Int × Int)) → Int → Int → Option (((List Int) × Unit) × Unit)) (j : Nat) (out2 : List Int) (i : Int) (x : Int) (x1 : Int) (x2 : Int) (x3 : Int) (k_ : Int) (t20_1 : List (Int × Int × Int × Int)) (t21_1 : Int) (t22_1 : Int) : L48_12 k g8 (j + 1) out2 i x x1 x2 x3 k_ t20_1 t21_1 t22_1 = l48_12 k g8 (fun out2 i x x1 x2 x3 k_ t20_1 t21_1 t22_1 => L48_12 k g8 j out2 i x x1 x2 x3 k_ t20_1 t21_1 t22_1) out2 i x x1 x2 x3 k_ t20_1 t21_1 t22_1 := iter_succ _ _ _ _
noncomputable abbrev c48_L8 : Cut := ⟨[3, 20, 21, 22], [.own 2 (.int .i64), .cell (.sl 41 (.pair (.int .i64) (.pair (.int .i64) (.pair (.int .i64) (.int .i64))))), .cell (.int .i64), .cell (.int .i64)], [], 55⟩
noncomputable def l48_8 (k : Nat) (g8 : (List Int) → (List (Int × Int × Int × Int)) → Int → Int → Option (((List Int) × Unit) × Unit)) (out1 : List Int) (t20 : List (Int × Int × Int × Int)) (t21 : Int) (t22 : Int) : Option (((List Int) × Unit) × Unit) :=
  (bif decide (t22 < t21) then
    ix t20 t22 <|
    (bif (rd t20 t22 (0, 0, 0, 0)).1 != 8 then
      g8 out1 t20 t21 (IntKind.i64.wrap (t22 + 1))
    else
      L48_12 k g8 k out1 t22 (rd t20 t22 (0, 0, 0, 0)).1 (rd t20 t22 (0, 0, 0, 0)).2.1 (rd t20 t22 (0, 0, 0, 0)).2.2.1 (rd t20 t22 (0, 0, 0, 0)).2.2.2 (IntKind.i64.wrap (t22 + 1)) t20 t21 t22)
  else
    some ((out1, ()), ()))
noncomputable def b48_8 (k : Nat) (g : ((Unit) × (List Int) × (List (Int × Int × Int × Int)) × Int × Int × Unit) → Option (((List Int) × Unit) × Unit)) (d : (Unit) × (List Int) × (List (Int × Int × Int × Int)) × Int × Int × Unit) : Option (((List Int) × Unit) × Unit) := l48_8 k (fun out1 t20 t21 t22 => g ((), out1, t20, t21, t22, ())) d.2.1 d.2.2.1 d.2.2.2.1 d.2.2.2.2.1
noncomputable def L48_8 (k : Nat) (j : Nat) (out1 : List Int) (t20 : List (Int × Int × Int × Int)) (t21 : Int) (t22 : Int) : Option (((List Int) × Unit) × Unit) := iter (R := ((List Int) × Unit) × Unit) c48_L8 (b48_8 k) j ((), out1, t20, t21, t22, ())
theorem L48_8_s (k : Nat) (j : Nat) (out1 : List Int) (t20 : List (Int × Int × Int × Int)) (t21 : Int) (t22 : Int) : L48_8 k (j + 1) out1 t20 t21 t22 = l48_8 k (fun out1 t20 t21 t22 => L48_8 k j out1 t20 t21 t22) out1 t20 t21 t22 := iter_succ _ _ _ _
noncomputable abbrev c48_L3 : Cut := ⟨[0, 3, 12, 13], [.cell (.sl 41 (.pair (.int .i64) (.pair (.int .i64) (.pair (.int .i64) (.int .i64))))), .own 2 (.int .i64), .cell (.int .i64), .cell (.int .i64)], [], 55⟩
noncomputable def l48_3 (k : Nat) (g3 : (List (Int × Int × Int × Int)) → (List Int) → Int → Int → Option (((List Int) × Unit) × Unit)) (l_1 : List (Int × Int × Int × Int)) (out : List Int) (t12 : Int) (t13 : Int) : Option (((List Int) × Unit) × Unit) :=
  (bif decide (t13 < t12) then
    ix out t13 <|
    g3 l_1 (upd out t13 1) t12 (IntKind.i64.wrap (t13 + 1))
  else
    L48_8 k k out l_1 (l_1.length : Int) 0)
noncomputable def b48_3 (k : Nat) (g : ((Unit) × (List (Int × Int × Int × Int)) × (List Int) × Int × Int × Unit) → Option (((List Int) × Unit) × Unit)) (d : (Unit) × (List (Int × Int × Int × Int)) × (List Int) × Int × Int × Unit) : Option (((List Int) × Unit) × Unit) := l48_3 k (fun l_1 out t12 t13 => g ((), l_1, out, t12, t13, ())) d.2.1 d.2.2.1 d.2.2.2.1 d.2.2.2.2.1
noncomputable def L48_3 (k : Nat) (j : Nat) (l_1 : List (Int × Int × Int × Int)) (out : List Int) (t12 : Int) (t13 : Int) : Option (((List Int) × Unit) × Unit) := iter (R := ((List Int) × Unit) × Unit) c48_L3 (b48_3 k) j ((), l_1, out, t12, t13, ())
theorem L48_3_s (k : Nat) (j : Nat) (l_1 : List (Int × Int × Int × Int)) (out : List Int) (t12 : Int) (t13 : Int) : L48_3 k (j + 1) l_1 out t12 t13 = l48_3 k (fun l_1 out t12 t13 => L48_3 k j l_1 out t12 t13) l_1 out t12 t13 := iter_succ _ _ _ _
noncomputable def S48 (k : Nat) (l_ : List (Int × Int × Int × Int)) : Option (((List Int) × Unit) × Unit) :=
  mk (l_.length : Int) (l_.length : Int) 8 <|
  L48_3 k k l_ (List.replicate (l_.length : Int).toNat (0 : Int)) ((List.replicate (l_.length : Int).toNat (0 : Int)).length : Int) 0
noncomputable def E48 : Env := tab.env (lk [(61, F61)]) (hintL [])
theorem E48_ok : EnvOK Try.prog E48 := envOK_of tabOK _ _ (allFn_lk (l := [(61, F61)]) ⟨ok61, trivial⟩)
noncomputable def B48 (k : Nat) : Tbl (RD R48 × MD P48) := (.loop 8 c48_L8 (b48_8 k) (fun g => (fun (g8 : (List Int) → (List (Int × Int × Int × Int)) → Int → Int → Option (((List Int) × Unit) × Unit)) => (.loop 12 c48_L12 (b48_12 k g8) (fun g => .nil) .nil)) (fun out1 t20 t21 t22 => g ((), out1, t20, t21, t22, ()))) (.loop 3 c48_L3 (b48_3 k) (fun g => .nil) .nil))
noncomputable def F48 : Fn := ⟨P48, R48, fun k x => S48 k x.1⟩
theorem ok48 : FnOK Try.prog 48 F48 := evalF_ok (E := E48) (T := B48) E48_ok mix Try.func48 rfl (by kernel_rfl) (by kernel_rfl) (fun k => by kernel_rfl) (fun k x => by kernel_rfl)
/-! ### 62: 62 foliot/sat.Add -/
noncomputable abbrev P62 : List PT := [.val ⟨false, (.int .i64), false⟩, .val ⟨false, (.int .i64), false⟩]
noncomputable abbrev R62 : List RT := [.val ⟨false, (.int .i64), true⟩, .val ⟨false, .bool, true⟩]
noncomputable def S62 (k : Nat) (a : Int) (b : Int) : Option ((Int × Bool × Unit) × Unit) :=
  (bif decide ((iand .i64 (ixor .i64 a (IntKind.i64.wrap (IntKind.u64.wrap ((IntKind.u64.wrap a) + (IntKind.u64.wrap b))))) (ixor .i64 b (IntKind.i64.wrap (IntKind.u64.wrap ((IntKind.u64.wrap a) + (IntKind.u64.wrap b)))))) < 0) then
    (S65 k (decide (a < 0))).bind fun q0 =>
    some ((q0.1.1, q0.1.2.1, ()), ())
  else
    some ((IntKind.i64.wrap (IntKind.u64.wrap ((IntKind.u64.wrap a) + (IntKind.u64.wrap b))), true, ()), ()))
noncomputable def E62 : Env := tab.env (lk [(65, F65)]) (hintL [])
theorem E62_ok : EnvOK Try.prog E62 := envOK_of tabOK _ _ (allFn_lk (l := [(65, F65)]) ⟨ok65, trivial⟩)
noncomputable def B62 (k : Nat) : Tbl (RD R62 × MD P62) := .nil
noncomputable def F62 : Fn := ⟨P62, R62, fun k x => S62 k x.1 x.2.1⟩
theorem ok62 : FnOK Try.prog 62 F62 := evalF_ok (E := E62) (T := B62) E62_ok mix Try.func62 rfl (by kernel_rfl) (by kernel_rfl) (fun k => by kernel_rfl) (fun k x => by kernel_rfl)
/-! ### 49: 49 foliot/cost.sum -/
noncomputable abbrev P49 : List PT := [.val ⟨false, (.sl 2 (.int .i64)), false⟩]
noncomputable abbrev R49 : List RT := [.val ⟨false, (.int .i64), true⟩]
noncomputable abbrev c49_L2 : Cut := ⟨[2, 5, 6, 7], [.cell (.int .i64), .cell (.sl 2 (.int .i64)), .cell (.int .i64), .cell (.int .i64)], [], 19⟩
noncomputable def l49_2 (k : Nat) (g2 : Int → (List Int) → Int → Int → Option ((Int × Unit) × Unit)) (s : Int) (t5 : List Int) (t6 : Int) (t7 : Int) : Option ((Int × Unit) × Unit) :=
  (bif decide (t7 < t6) then
    ix t5 t7 <|
    (S62 k s (rd t5 t7 0)).bind fun q0 =>
    g2 q0.1.1 t5 t6 (IntKind.i64.wrap (t7 + 1))
  else
    some ((s, ()), ()))
noncomputable def b49_2 (k : Nat) (g : ((Unit) × Int × (List Int) × Int × Int × Unit) → Option ((Int × Unit) × Unit)) (d : (Unit) × Int × (List Int) × Int × Int × Unit) : Option ((Int × Unit) × Unit) := l49_2 k (fun s t5 t6 t7 => g ((), s, t5, t6, t7, ())) d.2.1 d.2.2.1 d.2.2.2.1 d.2.2.2.2.1
noncomputable def L49_2 (k : Nat) (j : Nat) (s : Int) (t5 : List Int) (t6 : Int) (t7 : Int) : Option ((Int × Unit) × Unit) := iter (R := (Int × Unit) × Unit) c49_L2 (b49_2 k) j ((), s, t5, t6, t7, ())
theorem L49_2_s (k : Nat) (j : Nat) (s : Int) (t5 : List Int) (t6 : Int) (t7 : Int) : L49_2 k (j + 1) s t5 t6 t7 = l49_2 k (fun s t5 t6 t7 => L49_2 k j s t5 t6 t7) s t5 t6 t7 := iter_succ _ _ _ _
noncomputable def S49 (k : Nat) (l_ : List Int) : Option ((Int × Unit) × Unit) :=
  L49_2 k k 0 l_ (l_.length : Int) 0
noncomputable def E49 : Env := tab.env (lk [(62, F62)]) (hintL [])
theorem E49_ok : EnvOK Try.prog E49 := envOK_of tabOK _ _ (allFn_lk (l := [(62, F62)]) ⟨ok62, trivial⟩)
noncomputable def B49 (k : Nat) : Tbl (RD R49 × MD P49) := (.loop 2 c49_L2 (b49_2 k) (fun g => .nil) .nil)
noncomputable def F49 : Fn := ⟨P49, R49, fun k x => S49 k x.1⟩
theorem ok49 : FnOK Try.prog 49 F49 := evalF_ok (E := E49) (T := B49) E49_ok mix Try.func49 rfl (by kernel_rfl) (by kernel_rfl) (fun k => by kernel_rfl) (fun k x => by kernel_rfl)
/-! ### 26: 26 foliot/cost.Of -/
noncomputable abbrev P26 : List PT := [.val ⟨false, (.sl 41 (.pair (.int .i64) (.pair (.int .i64) (.pair (.int .i64) (.int .i64))))), false⟩]
noncomputable abbrev R26 : List RT := [.val ⟨true, (.pair (.int .i64) (.pair (.int .i64) (.sl 54 (.pair (.int .i64) (.int .i64))))), true⟩, .val ⟨false, .bool, true⟩]
noncomputable abbrev c26_L7 : Cut := ⟨[2, 4, 5, 6, 24, 25, 26], [.box 50 [.cell (.int .i64), .cell (.int .i64), .own 54 (.pair (.int .i64) (.int .i64))], .own 2 (.int .i64), .cell (.int .i64), .own 3 (.int .i64), .cell (.sl 41 (.pair (.int .i64) (.pair (.int .i64) (.pair (.int .i64) (.int .i64))))), .cell (.int .i64), .cell (.int .i64)], [], 75⟩
noncomputable def l26_7 (k : Nat) (g7 : Int → Int → (List (Int × Int)) → (List Int) → Int → (List Int) → (List (Int × Int × Int × Int)) → Int → Int → Option (((Int × Int × List (Int × Int)) × Bool × Unit) × Unit)) (c : Int) (c1 : Int) (c2 : List (Int × Int)) (all : List Int) (from_ : Int) (pairs : List Int) (t24 : List (Int × Int × Int × Int)) (t25 : Int) (t26 : Int) : Option (((Int × Int × List (Int × Int)) × Bool × Unit) × Unit) :=
  (bif decide (t26 < t25) then
    ix t24 t26 <|
    (bif (rd t24 t26 (0, 0, 0, 0)).1 == 11 then
      sx all from_ (IntKind.i64.wrap (t26 + 1)) <|
      (S49 k (sub all from_ (IntKind.i64.wrap (t26 + 1)))).bind fun q4 =>
      g7 c (mx c1 q4.1.1) c2 all (IntKind.i64.wrap (t26 + 1)) pairs t24 t25 (IntKind.i64.wrap (t26 + 1))
    else
      (bif (rd t24 t26 (0, 0, 0, 0)).1 == 0 then
        sx all from_ (IntKind.i64.wrap (t26 + 1)) <|
        (S49 k (sub all from_ (IntKind.i64.wrap (t26 + 1)))).bind fun q5 =>
        g7 c (mx c1 q5.1.1) c2 all (IntKind.i64.wrap (t26 + 1)) pairs t24 t25 (IntKind.i64.wrap (t26 + 1))
      else
        (bif (rd t24 t26 (0, 0, 0, 0)).1 == 9 then
          ix pairs t26 <|
          sx all (IntKind.i64.wrap (t26 + 1)) (IntKind.i64.wrap ((rd pairs t26 0) + 1)) <|
          (S49 k (sub all (IntKind.i64.wrap (t26 + 1)) (IntKind.i64.wrap ((rd pairs t26 0) + 1)))).bind fun q6 =>
          ix all t26 <|
          nz (rd all t26 0) <|
          ap c2 ([((rd t24 t26 (0, 0, 0, 0)).2.1, IntKind.i64.wrap (Int.tdiv q6.1.1 (rd all t26 0)))] : List (Int × Int)) 16 fun r7 =>
          g7 c c1 r7 all from_ pairs t24 t25 (IntKind.i64.wrap (t26 + 1))
        else
          g7 c c1 c2 all from_ pairs t24 t25 (IntKind.i64.wrap (t26 + 1)))))
  else
    some (((c, c1, c2), true, ()), ()))
noncomputable def b26_7 (k : Nat) (g : ((Unit) × (Int × Int × (List (Int × Int)) × Unit) × (List Int) × Int × (List Int) × (List (Int × Int × Int × Int)) × Int × Int × Unit) → Option (((Int × Int × List (Int × Int)) × Bool × Unit) × Unit)) (d : (Unit) × (Int × Int × (List (Int × Int)) × Unit) × (List Int) × Int × (List Int) × (List (Int × Int × Int × Int)) × Int × Int × Unit) : Option (((Int × Int × List (Int × Int)) × Bool × Unit) × Unit) := l26_7 k (fun c c1 c2 all from_ pairs t24 t25 t26 => g ((), (c, c1, c2, ()), all, from_, pairs, t24, t25, t26, ())) d.2.1.1 d.2.1.2.1 d.2.1.2.2.1 d.2.2.1 d.2.2.2.1 d.2.2.2.2.1 d.2.2.2.2.2.1 d.2.2.2.2.2.2.1 d.2.2.2.2.2.2.2.1
noncomputable def L26_7 (k : Nat) (j : Nat) (c : Int) (c1 : Int) (c2 : List (Int × Int)) (all : List Int) (from_ : Int) (pairs : List Int) (t24 : List (Int × Int × Int × Int)) (t25 : Int) (t26 : Int) : Option (((Int × Int × List (Int × Int)) × Bool × Unit) × Unit) := iter (R := ((Int × Int × List (Int × Int)) × Bool × Unit) × Unit) c26_L7 (b26_7 k) j ((), (c, c1, c2, ()), all, from_, pairs, t24, t25, t26, ())
theorem L26_7_s (k : Nat) (j : Nat) (c : Int) (c1 : Int) (c2 : List (Int × Int)) (all : List Int) (from_ : Int) (pairs : List Int) (t24 : List (Int × Int × Int × Int)) (t25 : Int) (t26 : Int) : L26_7 k (j + 1) c c1 c2 all from_ pairs t24 t25 t26 = l26_7 k (fun c c1 c2 all from_ pairs t24 t25 t26 => L26_7 k j c c1 c2 all from_ pairs t24 t25 t26) c c1 c2 all from_ pairs t24 t25 t26 := iter_succ _ _ _ _
noncomputable def S26 (k : Nat) (l_ : List (Int × Int × Int × Int)) : Option (((Int × Int × List (Int × Int)) × Bool × Unit) × Unit) :=
  (S18 k l_).bind fun q0 =>
  (bif !q0.1.1 then
    some (((0, 0, []), false, ()), ())
  else
    (S48 k l_).bind fun q1 =>
    (S19 k l_).bind fun q2 =>
    (S49 k q1.1.1).bind fun q3 =>
    L26_7 k k q3.1.1 0 ([] : List (Int × Int)) q1.1.1 0 q2.1.1 l_ (l_.length : Int) 0)
noncomputable def E26 : Env := tab.env (lk [(18, F18), (19, F19), (48, F48), (49, F49)]) (hintL [(2, 2)])
theorem E26_ok : EnvOK Try.prog E26 := envOK_of tabOK _ _ (allFn_lk (l := [(18, F18), (19, F19), (48, F48), (49, F49)]) ⟨ok18, ok19, ok48, ok49, trivial⟩)
noncomputable def B26 (k : Nat) : Tbl (RD R26 × MD P26) := (.loop 7 c26_L7 (b26_7 k) (fun g => .nil) .nil)
noncomputable def F26 : Fn := ⟨P26, R26, fun k x => S26 k x.1⟩
theorem ok26 : FnOK Try.prog 26 F26 := evalF_ok (E := E26) (T := B26) E26_ok mix Try.func26 rfl (by kernel_rfl) (by kernel_rfl) (fun k => by kernel_rfl) (fun k x => by kernel_rfl)
/-! ### 25: 25 foliot/foliotlaw7.begun -/
noncomputable abbrev P25 : List PT := []
noncomputable abbrev R25 : List RT := [.val ⟨false, .bool, true⟩]
noncomputable def S25 (k : Nat) : Option ((Bool × Unit) × Unit) :=
  (S26 k ([(1, 0, 0, 0), (11, 0, 0, 0), (9, 0, 0, 0), (10, 0, 0, 0), (0, 0, 0, 0)] : List (Int × Int × Int × Int))).bind fun q0 =>
  (S26 k []).bind fun q1 =>
  (bif q0.1.2.1 then
    (bif q0.1.1.1 == 5 then
      (bif q0.1.1.2.1 == 3 then
        (bif (q0.1.1.2.2.length : Int) == 1 then
          ix q0.1.1.2.2 0 <|
          (bif (rd q0.1.1.2.2 0 (0, 0)).2 == 1 then
            some ((!q1.1.2.1, ()), ())
          else
            some ((false, ()), ()))
        else
          some ((false, ()), ()))
      else
        some ((false, ()), ()))
    else
      some ((false, ()), ()))
  else
    some ((false, ()), ()))
noncomputable def E25 : Env := tab.env (lk [(26, F26)]) (hintL [])
theorem E25_ok : EnvOK Try.prog E25 := envOK_of tabOK _ _ (allFn_lk (l := [(26, F26)]) ⟨ok26, trivial⟩)
noncomputable def B25 (k : Nat) : Tbl (RD R25 × MD P25) := .nil
noncomputable def F25 : Fn := ⟨P25, R25, fun k x => S25 k ⟩
theorem ok25 : FnOK Try.prog 25 F25 := evalF_ok (E := E25) (T := B25) E25_ok mix Try.func25 rfl (by kernel_rfl) (by kernel_rfl) (fun k => by kernel_rfl) (fun k x => by kernel_rfl)
end Go.Proofs.Ytjnnjciedbgmiaa.Ab
