import Derived.Test.YtgmjmlgghdodoaaAbF0
/- Contracts, printed by this session's own program gen.py. -/
set_option linter.unusedVariables false
set_option linter.unusedSimpArgs false
set_option maxRecDepth 100000
namespace Go.Proofs.Ytgmjmlgghdodoaa.Ab
open Go.RowKit Go.Proofs.YtgmjmlgghdodoaaW.PrintWords
/-! ### 51: 51 foliot/shape.Pairs -/
noncomputable abbrev P51 : List PT := [.val ⟨false, (.sl 48 (.pair (.int .i64) (.pair (.int .i64) (.pair (.int .i64) (.int .i64))))), false⟩]
noncomputable abbrev R51 : List RT := [.val ⟨false, (.sl 3 (.int .i64)), true⟩, .val ⟨false, .bool, true⟩]
noncomputable abbrev c51_J8 : Cut := ⟨[1, 4, 5, 6, 7, 8, 9, 20, 21, 22], [.box 34 [.cell (.sl 48 (.pair (.int .i64) (.pair (.int .i64) (.pair (.int .i64) (.int .i64)))))], .own 3 (.int .i64), .own 3 (.int .i64), .mp 106 true (arrT 24 .bool) false (.int .i64), .cell (.sl 104 (arrT 24 .bool)), .box 3 [.cell (.int .i64)], .box 104 [.cell .bool, .cell .bool, .cell .bool, .cell .bool, .cell .bool, .cell .bool, .cell .bool, .cell .bool, .cell .bool, .cell .bool, .cell .bool, .cell .bool, .cell .bool, .cell .bool, .cell .bool, .cell .bool, .cell .bool, .cell .bool, .cell .bool, .cell .bool, .cell .bool, .cell .bool, .cell .bool, .cell .bool], .cell (.sl 104 (arrT 24 .bool)), .cell (.int .i64), .cell (.int .i64)], [], 110⟩
noncomputable def j51_8 (k : Nat) (g3 : (List (Int × Int × Int × Int)) → (List Int) → (List Int) → (List ((PN Bool 24) × Int)) → (List (PN Bool 24)) → (List (PN Bool 24)) → Int → Int → Option (((List Int) × Bool × Unit) × Unit)) (l_2 : List (Int × Int × Int × Int)) (out1 : List Int) (open_1 : List Int) (same1 : List ((PN Bool 24) × Int)) (all1 : List (PN Bool 24)) (i : Int) (x : Bool) (x1 : Bool) (x2 : Bool) (x3 : Bool) (x4 : Bool) (x5 : Bool) (x6 : Bool) (x7 : Bool) (x8 : Bool) (x9 : Bool) (x10 : Bool) (x11 : Bool) (x12 : Bool) (x13 : Bool) (x14 : Bool) (x15 : Bool) (x16 : Bool) (x17 : Bool) (x18 : Bool) (x19 : Bool) (x20 : Bool) (x21 : Bool) (x22 : Bool) (x23 : Bool) (t20_1 : List (PN Bool 24)) (t21_1 : Int) (t22_1 : Int) : Option (((List Int) × Bool × Unit) × Unit) :=
  ix l_2 i <|
  (bif (rd l_2 i (0, 0, 0, 0)).1 == 9 then
    (bif decide ((open_1.length : Int) ≥ 2) then
      some (([], false, ()), ())
    else
      (S73a k open_1 l_2 i).bind fun q1 =>
      (bif q1.1.1 then
        some (([], false, ()), ())
      else
        ap open_1 ([i] : List Int) 8 fun r2 =>
        g3 l_2 out1 r2 same1 all1 t20_1 t21_1 (IntKind.i64.wrap (t22_1 + 1))))
  else
    (bif (rd l_2 i (0, 0, 0, 0)).1 == 10 then
      (bif decide ((IntKind.i64.wrap ((open_1.length : Int) - 1)) < 0) then
        some (([], false, ()), ())
      else
        ix open_1 (IntKind.i64.wrap ((open_1.length : Int) - 1)) <|
        ix l_2 (rd open_1 (IntKind.i64.wrap ((open_1.length : Int) - 1)) 0) <|
        ix l_2 i <|
        (bif (rd l_2 (rd open_1 (IntKind.i64.wrap ((open_1.length : Int) - 1)) 0) (0, 0, 0, 0)).2.1 != (rd l_2 i (0, 0, 0, 0)).2.1 then
          some (([], false, ()), ())
        else
          ix open_1 (IntKind.i64.wrap ((open_1.length : Int) - 1)) <|
          ix all1 (rd open_1 (IntKind.i64.wrap ((open_1.length : Int) - 1)) 0) <|
          (bif (mget (arrT 24 .bool) (.int .i64) (rd all1 (rd open_1 (IntKind.i64.wrap ((open_1.length : Int) - 1)) 0) (prep (α := Bool) 24 false)) same1 0) != (mget (arrT 24 .bool) (.int .i64) (x, x1, x2, x3, x4, x5, x6, x7, x8, x9, x10, x11, x12, x13, x14, x15, x16, x17, x18, x19, x20, x21, x22, x23) same1 0) then
            some (([], false, ()), ())
          else
            ix open_1 (IntKind.i64.wrap ((open_1.length : Int) - 1)) <|
            ix out1 (rd open_1 (IntKind.i64.wrap ((open_1.length : Int) - 1)) 0) <|
            sx open_1 0 (IntKind.i64.wrap ((open_1.length : Int) - 1)) <|
            g3 l_2 (upd out1 (rd open_1 (IntKind.i64.wrap ((open_1.length : Int) - 1)) 0) i) (open_1.take (IntKind.i64.wrap ((open_1.length : Int) - 1)).toNat) same1 all1 t20_1 t21_1 (IntKind.i64.wrap (t22_1 + 1)))))
    else
      g3 l_2 out1 open_1 same1 all1 t20_1 t21_1 (IntKind.i64.wrap (t22_1 + 1))))
noncomputable abbrev c51_L3 : Cut := ⟨[1, 4, 5, 6, 7, 20, 21, 22], [.box 34 [.cell (.sl 48 (.pair (.int .i64) (.pair (.int .i64) (.pair (.int .i64) (.int .i64)))))], .own 3 (.int .i64), .own 3 (.int .i64), .mp 106 true (arrT 24 .bool) false (.int .i64), .cell (.sl 104 (arrT 24 .bool)), .cell (.sl 104 (arrT 24 .bool)), .cell (.int .i64), .cell (.int .i64)], [], 110⟩
noncomputable def l51_3 (k : Nat) (g3 : (List (Int × Int × Int × Int)) → (List Int) → (List Int) → (List ((PN Bool 24) × Int)) → (List (PN Bool 24)) → (List (PN Bool 24)) → Int → Int → Option (((List Int) × Bool × Unit) × Unit)) (l_1 : List (Int × Int × Int × Int)) (out : List Int) (open_ : List Int) (same : List ((PN Bool 24) × Int)) (all : List (PN Bool 24)) (t20 : List (PN Bool 24)) (t21 : Int) (t22 : Int) : Option (((List Int) × Bool × Unit) × Unit) :=
  (bif decide (t22 < t21) then
    ix t20 t22 <|
    (bif !(mhas (arrT 24 .bool) (.int .i64) (rd t20 t22 (prep (α := Bool) 24 false)) same) then
      j51_8 k g3 l_1 out open_ (updD (arrT 24 .bool) (.int .i64) (rd t20 t22 (prep (α := Bool) 24 false)) t22 same) all t22 (rd t20 t22 (prep (α := Bool) 24 false)).1 (rd t20 t22 (prep (α := Bool) 24 false)).2.1 (rd t20 t22 (prep (α := Bool) 24 false)).2.2.1 (rd t20 t22 (prep (α := Bool) 24 false)).2.2.2.1 (rd t20 t22 (prep (α := Bool) 24 false)).2.2.2.2.1 (rd t20 t22 (prep (α := Bool) 24 false)).2.2.2.2.2.1 (rd t20 t22 (prep (α := Bool) 24 false)).2.2.2.2.2.2.1 (rd t20 t22 (prep (α := Bool) 24 false)).2.2.2.2.2.2.2.1 (rd t20 t22 (prep (α := Bool) 24 false)).2.2.2.2.2.2.2.2.1 (rd t20 t22 (prep (α := Bool) 24 false)).2.2.2.2.2.2.2.2.2.1 (rd t20 t22 (prep (α := Bool) 24 false)).2.2.2.2.2.2.2.2.2.2.1 (rd t20 t22 (prep (α := Bool) 24 false)).2.2.2.2.2.2.2.2.2.2.2.1 (rd t20 t22 (prep (α := Bool) 24 false)).2.2.2.2.2.2.2.2.2.2.2.2.1 (rd t20 t22 (prep (α := Bool) 24 false)).2.2.2.2.2.2.2.2.2.2.2.2.2.1 (rd t20 t22 (prep (α := Bool) 24 false)).2.2.2.2.2.2.2.2.2.2.2.2.2.2.1 (rd t20 t22 (prep (α := Bool) 24 false)).2.2.2.2.2.2.2.2.2.2.2.2.2.2.2.1 (rd t20 t22 (prep (α := Bool) 24 false)).2.2.2.2.2.2.2.2.2.2.2.2.2.2.2.2.1 (rd t20 t22 (prep (α := Bool) 24 false)).2.2.2.2.2.2.2.2.2.2.2.2.2.2.2.2.2.1 (rd t20 t22 (prep (α := Bool) 24 false)).2.2.2.2.2.2.2.2.2.2.2.2.2.2.2.2.2.2.1 (rd t20 t22 (prep (α := Bool) 24 false)).2.2.2.2.2.2.2.2.2.2.2.2.2.2.2.2.2.2.2.1 (rd t20 t22 (prep (α := Bool) 24 false)).2.2.2.2.2.2.2.2.2.2.2.2.2.2.2.2.2.2.2.2.1 (rd t20 t22 (prep (α := Bool) 24 false)).2.2.2.2.2.2.2.2.2.2.2.2.2.2.2.2.2.2.2.2.2.1 (rd t20 t22 (prep (α := Bool) 24 false)).2.2.2.2.2.2.2.2.2.2.2.2.2.2.2.2.2.2.2.2.2.2.1 (rd t20 t22 (prep (α := Bool) 24 false)).2.2.2.2.2.2.2.2.2.2.2.2.2.2.2.2.2.2.2.2.2.2.2 t20 t21 t22
    else
      j51_8 k g3 l_1 out open_ same all t22 (rd t20 t22 (prep (α := Bool) 24 false)).1 (rd t20 t22 (prep (α := Bool) 24 false)).2.1 (rd t20 t22 (prep (α := Bool) 24 false)).2.2.1 (rd t20 t22 (prep (α := Bool) 24 false)).2.2.2.1 (rd t20 t22 (prep (α := Bool) 24 false)).2.2.2.2.1 (rd t20 t22 (prep (α := Bool) 24 false)).2.2.2.2.2.1 (rd t20 t22 (prep (α := Bool) 24 false)).2.2.2.2.2.2.1 (rd t20 t22 (prep (α := Bool) 24 false)).2.2.2.2.2.2.2.1 (rd t20 t22 (prep (α := Bool) 24 false)).2.2.2.2.2.2.2.2.1 (rd t20 t22 (prep (α := Bool) 24 false)).2.2.2.2.2.2.2.2.2.1 (rd t20 t22 (prep (α := Bool) 24 false)).2.2.2.2.2.2.2.2.2.2.1 (rd t20 t22 (prep (α := Bool) 24 false)).2.2.2.2.2.2.2.2.2.2.2.1 (rd t20 t22 (prep (α := Bool) 24 false)).2.2.2.2.2.2.2.2.2.2.2.2.1 (rd t20 t22 (prep (α := Bool) 24 false)).2.2.2.2.2.2.2.2.2.2.2.2.2.1 (rd t20 t22 (prep (α := Bool) 24 false)).2.2.2.2.2.2.2.2.2.2.2.2.2.2.1 (rd t20 t22 (prep (α := Bool) 24 false)).2.2.2.2.2.2.2.2.2.2.2.2.2.2.2.1 (rd t20 t22 (prep (α := Bool) 24 false)).2.2.2.2.2.2.2.2.2.2.2.2.2.2.2.2.1 (rd t20 t22 (prep (α := Bool) 24 false)).2.2.2.2.2.2.2.2.2.2.2.2.2.2.2.2.2.1 (rd t20 t22 (prep (α := Bool) 24 false)).2.2.2.2.2.2.2.2.2.2.2.2.2.2.2.2.2.2.1 (rd t20 t22 (prep (α := Bool) 24 false)).2.2.2.2.2.2.2.2.2.2.2.2.2.2.2.2.2.2.2.1 (rd t20 t22 (prep (α := Bool) 24 false)).2.2.2.2.2.2.2.2.2.2.2.2.2.2.2.2.2.2.2.2.1 (rd t20 t22 (prep (α := Bool) 24 false)).2.2.2.2.2.2.2.2.2.2.2.2.2.2.2.2.2.2.2.2.2.1 (rd t20 t22 (prep (α := Bool) 24 false)).2.2.2.2.2.2.2.2.2.2.2.2.2.2.2.2.2.2.2.2.2.2.1 (rd t20 t22 (prep (α := Bool) 24 false)).2.2.2.2.2.2.2.2.2.2.2.2.2.2.2.2.2.2.2.2.2.2.2 t20 t21 t22)
  else
    (bif decide ((open_.length : Int) > 0) then
      some (([], false, ()), ())
    else
      some ((out, true, ()), ())))
noncomputable def b51_3 (k : Nat) (g : ((Unit) × ((List (Int × Int × Int × Int)) × Unit) × (List Int) × (List Int) × (List ((PN Bool 24) × Int)) × (List (PN Bool 24)) × (List (PN Bool 24)) × Int × Int × Unit) → Option (((List Int) × Bool × Unit) × Unit)) (d : (Unit) × ((List (Int × Int × Int × Int)) × Unit) × (List Int) × (List Int) × (List ((PN Bool 24) × Int)) × (List (PN Bool 24)) × (List (PN Bool 24)) × Int × Int × Unit) : Option (((List Int) × Bool × Unit) × Unit) := l51_3 k (fun l_1 out open_ same all t20 t21 t22 => g ((), (l_1, ()), out, open_, same, all, t20, t21, t22, ())) d.2.1.1 d.2.2.1 d.2.2.2.1 d.2.2.2.2.1 d.2.2.2.2.2.1 d.2.2.2.2.2.2.1 d.2.2.2.2.2.2.2.1 d.2.2.2.2.2.2.2.2.1
noncomputable def L51_3 (k : Nat) (j : Nat) (l_1 : List (Int × Int × Int × Int)) (out : List Int) (open_ : List Int) (same : List ((PN Bool 24) × Int)) (all : List (PN Bool 24)) (t20 : List (PN Bool 24)) (t21 : Int) (t22 : Int) : Option (((List Int) × Bool × Unit) × Unit) := iter (R := ((List Int) × Bool × Unit) × Unit) c51_L3 (b51_3 k) j ((), (l_1, ()), out, open_, same, all, t20, t21, t22, ())
theorem L51_3_s (k : Nat) (j : Nat) (l_1 : List (Int × Int × Int × Int)) (out : List Int) (open_ : List Int) (same : List ((PN Bool 24) × Int)) (all : List (PN Bool 24)) (t20 : List (PN Bool 24)) (t21 : Int) (t22 : Int) : L51_3 k (j + 1) l_1 out open_ same all t20 t21 t22 = l51_3 k (L51_3 k j) l_1 out open_ same all t20 t21 t22 := iter_succ _ _ _ _
noncomputable def S51 (k : Nat) (l_ : List (Int × Int × Int × Int)) : Option (((List Int) × Bool × Unit) × Unit) :=
  mk (l_.length : Int) (l_.length : Int) 8 <|
  (S72 k l_).bind fun q0 =>
  L51_3 k k l_ (List.replicate (l_.length : Int).toNat (0 : Int)) ([] : List Int) ([] : List ((PN Bool 24) × Int)) q0.1.1 q0.1.1 (q0.1.1.length : Int) 0
noncomputable def E51 : Env := tab.env (lk [(72, F72), (73, F73a)]) (hintL [(104, 1)])
theorem E51_ok : EnvOK Try.prog E51 := envOK_of tabOK _ _ (allFn_lk (l := [(72, F72), (73, F73a)]) ⟨ok72, ok73a, trivial⟩)
noncomputable def B51 (k : Nat) : Tbl (RD R51 × MD P51) := (.loop 3 c51_L3 (b51_3 k) (fun g => (fun (g3 : (List (Int × Int × Int × Int)) → (List Int) → (List Int) → (List ((PN Bool 24) × Int)) → (List (PN Bool 24)) → (List (PN Bool 24)) → Int → Int → Option (((List Int) × Bool × Unit) × Unit)) => (.join 8 c51_J8 (fun d => j51_8 k g3 d.2.1.1 d.2.2.1 d.2.2.2.1 d.2.2.2.2.1 d.2.2.2.2.2.1 d.2.2.2.2.2.2.1.1 d.2.2.2.2.2.2.2.1.1 d.2.2.2.2.2.2.2.1.2.1 d.2.2.2.2.2.2.2.1.2.2.1 d.2.2.2.2.2.2.2.1.2.2.2.1 d.2.2.2.2.2.2.2.1.2.2.2.2.1 d.2.2.2.2.2.2.2.1.2.2.2.2.2.1 d.2.2.2.2.2.2.2.1.2.2.2.2.2.2.1 d.2.2.2.2.2.2.2.1.2.2.2.2.2.2.2.1 d.2.2.2.2.2.2.2.1.2.2.2.2.2.2.2.2.1 d.2.2.2.2.2.2.2.1.2.2.2.2.2.2.2.2.2.1 d.2.2.2.2.2.2.2.1.2.2.2.2.2.2.2.2.2.2.1 d.2.2.2.2.2.2.2.1.2.2.2.2.2.2.2.2.2.2.2.1 d.2.2.2.2.2.2.2.1.2.2.2.2.2.2.2.2.2.2.2.2.1 d.2.2.2.2.2.2.2.1.2.2.2.2.2.2.2.2.2.2.2.2.2.1 d.2.2.2.2.2.2.2.1.2.2.2.2.2.2.2.2.2.2.2.2.2.2.1 d.2.2.2.2.2.2.2.1.2.2.2.2.2.2.2.2.2.2.2.2.2.2.2.1 d.2.2.2.2.2.2.2.1.2.2.2.2.2.2.2.2.2.2.2.2.2.2.2.2.1 d.2.2.2.2.2.2.2.1.2.2.2.2.2.2.2.2.2.2.2.2.2.2.2.2.2.1 d.2.2.2.2.2.2.2.1.2.2.2.2.2.2.2.2.2.2.2.2.2.2.2.2.2.2.1 d.2.2.2.2.2.2.2.1.2.2.2.2.2.2.2.2.2.2.2.2.2.2.2.2.2.2.2.1 d.2.2.2.2.2.2.2.1.2.2.2.2.2.2.2.2.2.2.2.2.2.2.2.2.2.2.2.2.1 d.2.2.2.2.2.2.2.1.2.2.2.2.2.2.2.2.2.2.2.2.2.2.2.2.2.2.2.2.2.1 d.2.2.2.2.2.2.2.1.2.2.2.2.2.2.2.2.2.2.2.2.2.2.2.2.2.2.2.2.2.2.1 d.2.2.2.2.2.2.2.1.2.2.2.2.2.2.2.2.2.2.2.2.2.2.2.2.2.2.2.2.2.2.2.1 d.2.2.2.2.2.2.2.2.1 d.2.2.2.2.2.2.2.2.2.1 d.2.2.2.2.2.2.2.2.2.2.1) .nil)) (fun l_1 out open_ same all t20 t21 t22 => g ((), (l_1, ()), out, open_, same, all, t20, t21, t22, ()))) .nil)
noncomputable def F51 : Fn := ⟨P51, R51, fun k x => S51 k x.1⟩
theorem ok51 : FnOK Try.prog 51 F51 := evalF_ok (E := E51) (T := B51) E51_ok mix Try.func51 rfl (by kernel_rfl) (by kernel_rfl) (fun k => by kernel_rfl) (fun k x => by kernel_rfl)
/-! ### 74: 74 foliot/shape.May$3 -/
noncomputable abbrev P74 : List PT := [.val ⟨false, (.int .i64), false⟩, .pv (.ref (.int .i64))]
noncomputable abbrev R74 : List RT := [.val ⟨false, .bool, true⟩]
noncomputable def S74 (k : Nat) (end_ : Int) (x1 : Int) : Option ((Bool × Unit) × Unit) :=
  some ((decide (end_ > x1), ()), ())
noncomputable def E74 : Env := tab.env (lk []) (hintL [])
theorem E74_ok : EnvOK Try.prog E74 := envOK_of tabOK _ _ (fun f F h => by cases h)
noncomputable def B74 (k : Nat) : Tbl (RD R74 × MD P74) := .nil
noncomputable def F74 : Fn := ⟨P74, R74, fun k x => S74 k x.1 x.2.1⟩
theorem ok74 : FnOK Try.prog 74 F74 := evalF_ok (E := E74) (T := B74) E74_ok mix Try.func74 rfl (by kernel_rfl) (by kernel_rfl) (fun k => by kernel_rfl) (fun k x => by kernel_rfl)
/-! ### 86b: 86 slices.IndexFunc[[]int,int] -/
noncomputable abbrev P86b : List PT := [.val ⟨false, (.sl 3 (.int .i64)), false⟩, .pv (.clo 74 [.ref (.int .i64)])]
noncomputable abbrev R86b : List RT := [.val ⟨false, (.int .i64), true⟩]
noncomputable abbrev c86b_L2 : Cut := ⟨[0, 1, 7, 8], [.cell (.sl 3 (.int .i64)), .clo 74 [.ref (.int .i64)], .cell (.int .i64), .cell (.int .i64)], [], 19⟩
noncomputable def l86b_2 (k : Nat) (g2 : (List Int) → Int → Int → Int → Option ((Int × Unit) × Unit)) (s1 : List Int) (f1 : Int) (t7 : Int) (t8 : Int) : Option ((Int × Unit) × Unit) :=
  (bif decide (t8 < t7) then
    ix s1 t8 <|
    (S74 k (rd s1 t8 0) f1).bind fun q0 =>
    (bif q0.1.1 then
      some ((t8, ()), ())
    else
      g2 s1 f1 t7 (IntKind.i64.wrap (t8 + 1)))
  else
    some (((-1), ()), ()))
noncomputable def b86b_2 (k : Nat) (g : ((Unit) × (List Int) × (Int × Unit) × Int × Int × Unit) → Option ((Int × Unit) × Unit)) (d : (Unit) × (List Int) × (Int × Unit) × Int × Int × Unit) : Option ((Int × Unit) × Unit) := l86b_2 k (fun s1 f1 t7 t8 => g ((), s1, (f1, ()), t7, t8, ())) d.2.1 d.2.2.1.1 d.2.2.2.1 d.2.2.2.2.1
noncomputable def L86b_2 (k : Nat) (j : Nat) (s1 : List Int) (f1 : Int) (t7 : Int) (t8 : Int) : Option ((Int × Unit) × Unit) := iter (R := (Int × Unit) × Unit) c86b_L2 (b86b_2 k) j ((), s1, (f1, ()), t7, t8, ())
theorem L86b_2_s (k : Nat) (j : Nat) (s1 : List Int) (f1 : Int) (t7 : Int) (t8 : Int) : L86b_2 k (j + 1) s1 f1 t7 t8 = l86b_2 k (L86b_2 k j) s1 f1 t7 t8 := iter_succ _ _ _ _
noncomputable def S86b (k : Nat) (s : List Int) (f : Int) : Option ((Int × Unit) × Unit) :=
  L86b_2 k k s f (s.length : Int) 0
noncomputable def E86b : Env := tab.env (lk [(74, F74)]) (hintL [])
theorem E86b_ok : EnvOK Try.prog E86b := envOK_of tabOK _ _ (allFn_lk (l := [(74, F74)]) ⟨ok74, trivial⟩)
noncomputable def B86b (k : Nat) : Tbl (RD R86b × MD P86b) := (.loop 2 c86b_L2 (b86b_2 k) (fun g => .nil) .nil)
noncomputable def F86b : Fn := ⟨P86b, R86b, fun k x => S86b k x.1 x.2.1.1⟩
theorem ok86b : FnOK Try.prog 86 F86b := evalF_ok (E := E86b) (T := B86b) E86b_ok mix Try.func86 rfl (by kernel_rfl) (by kernel_rfl) (fun k => by kernel_rfl) (fun k x => by kernel_rfl)
/-! ### 73b: 73 slices.ContainsFunc[[]int,int] -/
noncomputable abbrev P73b : List PT := [.val ⟨false, (.sl 3 (.int .i64)), false⟩, .pv (.clo 74 [.ref (.int .i64)])]
noncomputable abbrev R73b : List RT := [.val ⟨false, .bool, true⟩]
noncomputable def S73b (k : Nat) (s : List Int) (f : Int) : Option ((Bool × Unit) × Unit) :=
  (S86b k s f).bind fun q0 =>
  some ((decide (q0.1.1 ≥ 0), ()), ())
noncomputable def E73b : Env := tab.env (lk [(86, F86b)]) (hintL [])
theorem E73b_ok : EnvOK Try.prog E73b := envOK_of tabOK _ _ (allFn_lk (l := [(86, F86b)]) ⟨ok86b, trivial⟩)
noncomputable def B73b (k : Nat) : Tbl (RD R73b × MD P73b) := .nil
noncomputable def F73b : Fn := ⟨P73b, R73b, fun k x => S73b k x.1 x.2.1.1⟩
theorem ok73b : FnOK Try.prog 73 F73b := evalF_ok (E := E73b) (T := B73b) E73b_ok mix Try.func73 rfl (by kernel_rfl) (by kernel_rfl) (fun k => by kernel_rfl) (fun k x => by kernel_rfl)
/-! ### 46: 46 foliot/shape.May -/
noncomputable abbrev P46 : List PT := [.val ⟨false, (.sl 48 (.pair (.int .i64) (.pair (.int .i64) (.pair (.int .i64) (.int .i64))))), false⟩]
noncomputable abbrev R46 : List RT := [.val ⟨false, .bool, true⟩]
noncomputable abbrev c46_L11 : Cut := ⟨[4, 6, 42, 43, 44], [.own 3 (.int .i64), .own 104 (arrT 24 .bool), .cell (.sl 48 (.pair (.int .i64) (.pair (.int .i64) (.pair (.int .i64) (.int .i64))))), .cell (.int .i64), .cell (.int .i64)], [], 66⟩
noncomputable def l46_11 (k : Nat) (g11 : (List Int) → (List (PN Bool 24)) → (List (Int × Int × Int × Int)) → Int → Int → Option ((Bool × Unit) × Unit)) (pairs : List Int) (all : List (PN Bool 24)) (t42 : List (Int × Int × Int × Int)) (t43 : Int) (t44 : Int) : Option ((Bool × Unit) × Unit) :=
  (bif decide (t44 < t43) then
    ix t42 t44 <|
    (bif (rd t42 t44 (0, 0, 0, 0)).1 != 11 then
      g11 pairs all t42 t43 (IntKind.i64.wrap (t44 + 1))
    else
      ix all t44 <|
      (bif !(beqD (arrT 24 .bool) (rd all t44 (prep (α := Bool) 24 false)) (false, false, false, false, false, false, false, false, false, false, false, false, false, false, false, false, false, false, false, false, false, false, false, false)) then
        some ((false, ()), ())
      else
        sx pairs 0 t44 <|
        (S73b k (sub pairs 0 t44) t44).bind fun q5 =>
        (bif q5.1.1 then
          some ((false, ()), ())
        else
          g11 pairs all t42 t43 (IntKind.i64.wrap (t44 + 1)))))
  else
    some ((true, ()), ()))
noncomputable def b46_11 (k : Nat) (g : ((Unit) × (List Int) × (List (PN Bool 24)) × (List (Int × Int × Int × Int)) × Int × Int × Unit) → Option ((Bool × Unit) × Unit)) (d : (Unit) × (List Int) × (List (PN Bool 24)) × (List (Int × Int × Int × Int)) × Int × Int × Unit) : Option ((Bool × Unit) × Unit) := l46_11 k (fun pairs all t42 t43 t44 => g ((), pairs, all, t42, t43, t44, ())) d.2.1 d.2.2.1 d.2.2.2.1 d.2.2.2.2.1 d.2.2.2.2.2.1
noncomputable def L46_11 (k : Nat) (j : Nat) (pairs : List Int) (all : List (PN Bool 24)) (t42 : List (Int × Int × Int × Int)) (t43 : Int) (t44 : Int) : Option ((Bool × Unit) × Unit) := iter (R := (Bool × Unit) × Unit) c46_L11 (b46_11 k) j ((), pairs, all, t42, t43, t44, ())
theorem L46_11_s (k : Nat) (j : Nat) (pairs : List Int) (all : List (PN Bool 24)) (t42 : List (Int × Int × Int × Int)) (t43 : Int) (t44 : Int) : L46_11 k (j + 1) pairs all t42 t43 t44 = l46_11 k (L46_11 k j) pairs all t42 t43 t44 := iter_succ _ _ _ _
noncomputable def S46 (k : Nat) (l_ : List (Int × Int × Int × Int)) : Option ((Bool × Unit) × Unit) :=
  (bif decide ((l_.length : Int) < 1) then
    some ((false, ()), ())
  else
    (bif decide ((l_.length : Int) > 24) then
      some ((false, ()), ())
    else
      (S59 k l_).bind fun q0 =>
      (bif q0.1.1 then
        some ((false, ()), ())
      else
        (S69a k l_).bind fun q1 =>
        (bif q1.1.1 != (IntKind.i64.wrap ((l_.length : Int) - 1)) then
          some ((false, ()), ())
        else
          (S71 k l_).bind fun q2 =>
          (bif !q2.1.1 then
            some ((false, ()), ())
          else
            (S51 k l_).bind fun q3 =>
            (bif !q3.1.2.1 then
              some ((false, ()), ())
            else
              (S72 k l_).bind fun q4 =>
              L46_11 k k q3.1.1 q4.1.1 l_ (l_.length : Int) 0))))))
noncomputable def E46 : Env := tab.env (lk [(51, F51), (59, F59), (69, F69a), (71, F71), (72, F72), (73, F73b)]) (hintL [])
theorem E46_ok : EnvOK Try.prog E46 := envOK_of tabOK _ _ (allFn_lk (l := [(51, F51), (59, F59), (69, F69a), (71, F71), (72, F72), (73, F73b)]) ⟨ok51, ok59, ok69a, ok71, ok72, ok73b, trivial⟩)
noncomputable def B46 (k : Nat) : Tbl (RD R46 × MD P46) := (.loop 11 c46_L11 (b46_11 k) (fun g => .nil) .nil)
noncomputable def F46 : Fn := ⟨P46, R46, fun k x => S46 k x.1⟩
theorem ok46 : FnOK Try.prog 46 F46 := evalF_ok (E := E46) (T := B46) E46_ok mix Try.func46 rfl (by kernel_rfl) (by kernel_rfl) (fun k => by kernel_rfl) (fun k x => by kernel_rfl)
/-! ### 47: 47 foliot/task.may -/
noncomputable abbrev P47 : List PT := [.val ⟨false, (.sl 48 (.pair (.int .i64) (.pair (.int .i64) (.pair (.int .i64) (.int .i64))))), false⟩]
noncomputable abbrev R47 : List RT := [.val ⟨false, .bool, true⟩]
noncomputable def S47 (k : Nat) (l_ : List (Int × Int × Int × Int)) : Option ((Bool × Unit) × Unit) :=
  (bif (l_.length : Int) == 0 then
    some ((true, ()), ())
  else
    (S46 k l_).bind fun q0 =>
    some ((q0.1.1, ()), ()))
noncomputable def E47 : Env := tab.env (lk [(46, F46)]) (hintL [])
theorem E47_ok : EnvOK Try.prog E47 := envOK_of tabOK _ _ (allFn_lk (l := [(46, F46)]) ⟨ok46, trivial⟩)
noncomputable def B47 (k : Nat) : Tbl (RD R47 × MD P47) := .nil
noncomputable def F47 : Fn := ⟨P47, R47, fun k x => S47 k x.1⟩
theorem ok47 : FnOK Try.prog 47 F47 := evalF_ok (E := E47) (T := B47) E47_ok mix Try.func47 rfl (by kernel_rfl) (by kernel_rfl) (fun k => by kernel_rfl) (fun k x => by kernel_rfl)
/-! ### 75: 75 foliot/task.locks$1 -/
noncomputable abbrev P75 : List PT := [.val ⟨true, (.pair (.int .i64) (.pair (.int .i64) (.pair (.int .i64) (.int .i64)))), false⟩]
noncomputable abbrev R75 : List RT := [.val ⟨false, .bool, true⟩]
noncomputable def S75 (k : Nat) (i : Int × Int × Int × Int) : Option ((Bool × Unit) × Unit) :=
  some ((i.1 == 9, ()), ())
noncomputable def E75 : Env := tab.env (lk []) (hintL [])
theorem E75_ok : EnvOK Try.prog E75 := envOK_of tabOK _ _ (fun f F h => by cases h)
noncomputable def B75 (k : Nat) : Tbl (RD R75 × MD P75) := .nil
noncomputable def F75 : Fn := ⟨P75, R75, fun k x => S75 k x.1⟩
theorem ok75 : FnOK Try.prog 75 F75 := evalF_ok (E := E75) (T := B75) E75_ok mix Try.func75 rfl (by kernel_rfl) (by kernel_rfl) (fun k => by kernel_rfl) (fun k x => by kernel_rfl)
/-! ### 69b: 69 slices.IndexFunc[[]foliot/api.Inst,foliot/api.Inst] -/
noncomputable abbrev P69b : List PT := [.val ⟨false, (.sl 48 (.pair (.int .i64) (.pair (.int .i64) (.pair (.int .i64) (.int .i64))))), false⟩, .pv (.clo 75 [])]
noncomputable abbrev R69b : List RT := [.val ⟨false, (.int .i64), true⟩]
noncomputable abbrev c69b_L2 : Cut := ⟨[0, 1, 7, 8], [.cell (.sl 48 (.pair (.int .i64) (.pair (.int .i64) (.pair (.int .i64) (.int .i64))))), .clo 75 [], .cell (.int .i64), .cell (.int .i64)], [], 19⟩
noncomputable def l69b_2 (k : Nat) (g2 : (List (Int × Int × Int × Int)) → Int → Int → Option ((Int × Unit) × Unit)) (s1 : List (Int × Int × Int × Int)) (t7 : Int) (t8 : Int) : Option ((Int × Unit) × Unit) :=
  (bif decide (t8 < t7) then
    ix s1 t8 <|
    (S75 k (rd s1 t8 (0, 0, 0, 0))).bind fun q0 =>
    (bif q0.1.1 then
      some ((t8, ()), ())
    else
      g2 s1 t7 (IntKind.i64.wrap (t8 + 1)))
  else
    some (((-1), ()), ()))
noncomputable def b69b_2 (k : Nat) (g : ((Unit) × (List (Int × Int × Int × Int)) × Unit × Int × Int × Unit) → Option ((Int × Unit) × Unit)) (d : (Unit) × (List (Int × Int × Int × Int)) × Unit × Int × Int × Unit) : Option ((Int × Unit) × Unit) := l69b_2 k (fun s1 t7 t8 => g ((), s1, (), t7, t8, ())) d.2.1 d.2.2.2.1 d.2.2.2.2.1
noncomputable def L69b_2 (k : Nat) (j : Nat) (s1 : List (Int × Int × Int × Int)) (t7 : Int) (t8 : Int) : Option ((Int × Unit) × Unit) := iter (R := (Int × Unit) × Unit) c69b_L2 (b69b_2 k) j ((), s1, (), t7, t8, ())
theorem L69b_2_s (k : Nat) (j : Nat) (s1 : List (Int × Int × Int × Int)) (t7 : Int) (t8 : Int) : L69b_2 k (j + 1) s1 t7 t8 = l69b_2 k (L69b_2 k j) s1 t7 t8 := iter_succ _ _ _ _
noncomputable def S69b (k : Nat) (s : List (Int × Int × Int × Int)) : Option ((Int × Unit) × Unit) :=
  L69b_2 k k s (s.length : Int) 0
noncomputable def E69b : Env := tab.env (lk [(75, F75)]) (hintL [])
theorem E69b_ok : EnvOK Try.prog E69b := envOK_of tabOK _ _ (allFn_lk (l := [(75, F75)]) ⟨ok75, trivial⟩)
noncomputable def B69b (k : Nat) : Tbl (RD R69b × MD P69b) := (.loop 2 c69b_L2 (b69b_2 k) (fun g => .nil) .nil)
noncomputable def F69b : Fn := ⟨P69b, R69b, fun k x => S69b k x.1⟩
theorem ok69b : FnOK Try.prog 69 F69b := evalF_ok (E := E69b) (T := B69b) E69b_ok mix Try.func69 rfl (by kernel_rfl) (by kernel_rfl) (fun k => by kernel_rfl) (fun k x => by kernel_rfl)
/-! ### 59a: 59 slices.ContainsFunc[[]foliot/api.Inst,foliot/api.Inst] -/
noncomputable abbrev P59a : List PT := [.val ⟨false, (.sl 48 (.pair (.int .i64) (.pair (.int .i64) (.pair (.int .i64) (.int .i64))))), false⟩, .pv (.clo 75 [])]
noncomputable abbrev R59a : List RT := [.val ⟨false, .bool, true⟩]
noncomputable def S59a (k : Nat) (s : List (Int × Int × Int × Int)) : Option ((Bool × Unit) × Unit) :=
  (S69b k s).bind fun q0 =>
  some ((decide (q0.1.1 ≥ 0), ()), ())
noncomputable def E59a : Env := tab.env (lk [(69, F69b)]) (hintL [])
theorem E59a_ok : EnvOK Try.prog E59a := envOK_of tabOK _ _ (allFn_lk (l := [(69, F69b)]) ⟨ok69b, trivial⟩)
noncomputable def B59a (k : Nat) : Tbl (RD R59a × MD P59a) := .nil
noncomputable def F59a : Fn := ⟨P59a, R59a, fun k x => S59a k x.1⟩
theorem ok59a : FnOK Try.prog 59 F59a := evalF_ok (E := E59a) (T := B59a) E59a_ok mix Try.func59 rfl (by kernel_rfl) (by kernel_rfl) (fun k => by kernel_rfl) (fun k x => by kernel_rfl)
/-! ### 48: 48 foliot/task.locks -/
noncomputable abbrev P48 : List PT := [.val ⟨false, (.sl 48 (.pair (.int .i64) (.pair (.int .i64) (.pair (.int .i64) (.int .i64))))), false⟩]
noncomputable abbrev R48 : List RT := [.val ⟨false, .bool, true⟩]
noncomputable def S48 (k : Nat) (l_ : List (Int × Int × Int × Int)) : Option ((Bool × Unit) × Unit) :=
  (S59a k l_).bind fun q0 =>
  some ((q0.1.1, ()), ())
noncomputable def E48 : Env := tab.env (lk [(59, F59a)]) (hintL [])
theorem E48_ok : EnvOK Try.prog E48 := envOK_of tabOK _ _ (allFn_lk (l := [(59, F59a)]) ⟨ok59a, trivial⟩)
noncomputable def B48 (k : Nat) : Tbl (RD R48 × MD P48) := .nil
noncomputable def F48 : Fn := ⟨P48, R48, fun k x => S48 k x.1⟩
theorem ok48 : FnOK Try.prog 48 F48 := evalF_ok (E := E48) (T := B48) E48_ok mix Try.func48 rfl (by kernel_rfl) (by kernel_rfl) (fun k => by kernel_rfl) (fun k x => by kernel_rfl)
/-! ### 55: 55 foliot/sat.size -/
noncomputable abbrev P55 : List PT := [.val ⟨false, (.int .i64), false⟩]
noncomputable abbrev R55 : List RT := [.val ⟨false, (.int .u64), true⟩]
noncomputable def S55 (k : Nat) (v : Int) : Option ((Int × Unit) × Unit) :=
  (bif decide (v < 0) then
    some ((IntKind.u64.wrap (0 - (IntKind.u64.wrap v)), ()), ())
  else
    some ((IntKind.u64.wrap v, ()), ()))
noncomputable def E55 : Env := tab.env (lk []) (hintL [])
theorem E55_ok : EnvOK Try.prog E55 := envOK_of tabOK _ _ (fun f F h => by cases h)
noncomputable def B55 (k : Nat) : Tbl (RD R55 × MD P55) := .nil
noncomputable def F55 : Fn := ⟨P55, R55, fun k x => S55 k x.1⟩
theorem ok55 : FnOK Try.prog 55 F55 := evalF_ok (E := E55) (T := B55) E55_ok mix Try.func55 rfl (by kernel_rfl) (by kernel_rfl) (fun k => by kernel_rfl) (fun k x => by kernel_rfl)
/-! ### 54: 54 foliot/sat.times -/
noncomputable abbrev P54 : List PT := [.val ⟨false, (.int .u64), false⟩, .val ⟨false, (.int .u64), false⟩]
noncomputable abbrev R54 : List RT := [.val ⟨false, (.int .u64), true⟩, .val ⟨false, .bool, true⟩]
noncomputable def S54 (k : Nat) (a : Int) (b : Int) : Option ((Int × Bool × Unit) × Unit) :=
  (bif decide ((ishr .u64 a 32) > 0) then
    (bif decide ((ishr .u64 b 32) > 0) then
      some ((0, false, ()), ())
    else
      (bif decide ((ishr .u64 (ior .u64 (IntKind.u64.wrap ((ishr .u64 a 32) * (IntKind.u64.wrap (IntKind.u32.wrap b)))) (IntKind.u64.wrap ((IntKind.u64.wrap (IntKind.u32.wrap a)) * (ishr .u64 b 32)))) 32) > 0) then
        some ((0, false, ()), ())
      else
        some ((IntKind.u64.wrap ((IntKind.u64.wrap ((IntKind.u64.wrap (IntKind.u32.wrap a)) * (IntKind.u64.wrap (IntKind.u32.wrap b)))) + (ishl .u64 (ior .u64 (IntKind.u64.wrap ((ishr .u64 a 32) * (IntKind.u64.wrap (IntKind.u32.wrap b)))) (IntKind.u64.wrap ((IntKind.u64.wrap (IntKind.u32.wrap a)) * (ishr .u64 b 32)))) 32)), decide ((IntKind.u64.wrap ((IntKind.u64.wrap ((IntKind.u64.wrap (IntKind.u32.wrap a)) * (IntKind.u64.wrap (IntKind.u32.wrap b)))) + (ishl .u64 (ior .u64 (IntKind.u64.wrap ((ishr .u64 a 32) * (IntKind.u64.wrap (IntKind.u32.wrap b)))) (IntKind.u64.wrap ((IntKind.u64.wrap (IntKind.u32.wrap a)) * (ishr .u64 b 32)))) 32))) ≥ (IntKind.u64.wrap ((IntKind.u64.wrap (IntKind.u32.wrap a)) * (IntKind.u64.wrap (IntKind.u32.wrap b))))), ()), ())))
  else
    (bif decide ((ishr .u64 (ior .u64 (IntKind.u64.wrap ((ishr .u64 a 32) * (IntKind.u64.wrap (IntKind.u32.wrap b)))) (IntKind.u64.wrap ((IntKind.u64.wrap (IntKind.u32.wrap a)) * (ishr .u64 b 32)))) 32) > 0) then
      some ((0, false, ()), ())
    else
      some ((IntKind.u64.wrap ((IntKind.u64.wrap ((IntKind.u64.wrap (IntKind.u32.wrap a)) * (IntKind.u64.wrap (IntKind.u32.wrap b)))) + (ishl .u64 (ior .u64 (IntKind.u64.wrap ((ishr .u64 a 32) * (IntKind.u64.wrap (IntKind.u32.wrap b)))) (IntKind.u64.wrap ((IntKind.u64.wrap (IntKind.u32.wrap a)) * (ishr .u64 b 32)))) 32)), decide ((IntKind.u64.wrap ((IntKind.u64.wrap ((IntKind.u64.wrap (IntKind.u32.wrap a)) * (IntKind.u64.wrap (IntKind.u32.wrap b)))) + (ishl .u64 (ior .u64 (IntKind.u64.wrap ((ishr .u64 a 32) * (IntKind.u64.wrap (IntKind.u32.wrap b)))) (IntKind.u64.wrap ((IntKind.u64.wrap (IntKind.u32.wrap a)) * (ishr .u64 b 32)))) 32))) ≥ (IntKind.u64.wrap ((IntKind.u64.wrap (IntKind.u32.wrap a)) * (IntKind.u64.wrap (IntKind.u32.wrap b))))), ()), ())))
noncomputable def E54 : Env := tab.env (lk []) (hintL [])
theorem E54_ok : EnvOK Try.prog E54 := envOK_of tabOK _ _ (fun f F h => by cases h)
noncomputable def B54 (k : Nat) : Tbl (RD R54 × MD P54) := .nil
noncomputable def F54 : Fn := ⟨P54, R54, fun k x => S54 k x.1 x.2.1⟩
theorem ok54 : FnOK Try.prog 54 F54 := evalF_ok (E := E54) (T := B54) E54_ok mix Try.func54 rfl (by kernel_rfl) (by kernel_rfl) (fun k => by kernel_rfl) (fun k x => by kernel_rfl)
/-! ### 56: 56 foliot/sat.end -/
noncomputable abbrev P56 : List PT := [.val ⟨false, .bool, false⟩]
noncomputable abbrev R56 : List RT := [.val ⟨false, (.int .i64), true⟩, .val ⟨false, .bool, true⟩]
noncomputable def S56 (k : Nat) (below : Bool) : Option ((Int × Bool × Unit) × Unit) :=
  (bif below then
    some (((-9223372036854775808), false, ()), ())
  else
    some ((9223372036854775807, false, ()), ()))
noncomputable def E56 : Env := tab.env (lk []) (hintL [])
theorem E56_ok : EnvOK Try.prog E56 := envOK_of tabOK _ _ (fun f F h => by cases h)
noncomputable def B56 (k : Nat) : Tbl (RD R56 × MD P56) := .nil
noncomputable def F56 : Fn := ⟨P56, R56, fun k x => S56 k x.1⟩
theorem ok56 : FnOK Try.prog 56 F56 := evalF_ok (E := E56) (T := B56) E56_ok mix Try.func56 rfl (by kernel_rfl) (by kernel_rfl) (fun k => by kernel_rfl) (fun k x => by kernel_rfl)
/-! ### 38: 38 foliot/sat.Mul -/
noncomputable abbrev P38 : List PT := [.val ⟨false, (.int .i64), false⟩, .val ⟨false, (.int .i64), false⟩]
noncomputable abbrev R38 : List RT := [.val ⟨false, (.int .i64), true⟩, .val ⟨false, .bool, true⟩]
noncomputable abbrev c38_J5 : Cut := ⟨[0, 1, 6, 7], [.cell (.int .i64), .cell (.int .i64), .cell .bool, .cell (.int .u64)], [], 45⟩
noncomputable def j38_5 (k : Nat) (a1 : Int) (b1 : Int) (below : Bool) (most : Int) : Option ((Int × Bool × Unit) × Unit) :=
  (S55 k a1).bind fun q0 =>
  (S55 k b1).bind fun q1 =>
  (S54 k q0.1.1 q1.1.1).bind fun q2 =>
  (bif !q2.1.2.1 then
    (S56 k below).bind fun q3 =>
    some ((q3.1.1, q3.1.2.1, ()), ())
  else
    (bif decide (q2.1.1 > most) then
      (S56 k below).bind fun q4 =>
      some ((q4.1.1, q4.1.2.1, ()), ())
    else
      (bif below then
        some ((IntKind.i64.wrap (IntKind.u64.wrap (0 - q2.1.1)), true, ()), ())
      else
        some ((IntKind.i64.wrap q2.1.1, true, ()), ()))))
noncomputable def S38 (k : Nat) (a : Int) (b : Int) : Option ((Int × Bool × Unit) × Unit) :=
  (bif !((decide (a < 0)) == (decide (b < 0))) then
    j38_5 k a b (!((decide (a < 0)) == (decide (b < 0)))) 9223372036854775808
  else
    j38_5 k a b (!((decide (a < 0)) == (decide (b < 0)))) 9223372036854775807)
noncomputable def E38 : Env := tab.env (lk [(54, F54), (55, F55), (56, F56)]) (hintL [])
theorem E38_ok : EnvOK Try.prog E38 := envOK_of tabOK _ _ (allFn_lk (l := [(54, F54), (55, F55), (56, F56)]) ⟨ok54, ok55, ok56, trivial⟩)
noncomputable def B38 (k : Nat) : Tbl (RD R38 × MD P38) := (.join 5 c38_J5 (fun d => j38_5 k d.2.1 d.2.2.1 d.2.2.2.1 d.2.2.2.2.1) .nil)
noncomputable def F38 : Fn := ⟨P38, R38, fun k x => S38 k x.1 x.2.1⟩
theorem ok38 : FnOK Try.prog 38 F38 := evalF_ok (E := E38) (T := B38) E38_ok mix Try.func38 rfl (by kernel_rfl) (by kernel_rfl) (fun k => by kernel_rfl) (fun k x => by kernel_rfl)
/-! ### 50: 50 foliot/cost.times -/
noncomputable abbrev P50 : List PT := [.val ⟨false, (.sl 48 (.pair (.int .i64) (.pair (.int .i64) (.pair (.int .i64) (.int .i64))))), false⟩]
noncomputable abbrev R50 : List RT := [.val ⟨false, (.sl 2 (.int .i64)), true⟩]
noncomputable abbrev c50_L12 : Cut := ⟨[3, 5, 6, 7, 20, 21, 22], [.own 2 (.int .i64), .cell (.int .i64), .box 48 [.cell (.int .i64), .cell (.int .i64), .cell (.int .i64), .cell (.int .i64)], .cell (.int .i64), .cell (.sl 48 (.pair (.int .i64) (.pair (.int .i64) (.pair (.int .i64) (.int .i64))))), .cell (.int .i64), .cell (.int .i64)], [], 55⟩
noncomputable def l50_12 (k : Nat) (g8 : (List Int) → (List (Int × Int × Int × Int)) → Int → Int → Option (((List Int) × Unit) × Unit)) (g12 : (List Int) → Int → Int → Int → Int → Int → Int → (List (Int × Int × Int × Int)) → Int → Int → Option (((List Int) × Unit) × Unit)) (out2 : List Int) (i : Int) (x : Int) (x1 : Int) (x2 : Int) (x3 : Int) (k_ : Int) (t20_1 : List (Int × Int × Int × Int)) (t21_1 : Int) (t22_1 : Int) : Option (((List Int) × Unit) × Unit) :=
  (bif decide (k_ ≤ (IntKind.i64.wrap (i + x2))) then
    ix out2 k_ <|
    (S38 k (rd out2 k_ 0) x3).bind fun q0 =>
    ix out2 k_ <|
    g12 (upd out2 k_ q0.1.1) i x x1 x2 x3 (IntKind.i64.wrap (k_ + 1)) t20_1 t21_1 t22_1
  else
    g8 out2 t20_1 t21_1 (IntKind.i64.wrap (t22_1 + 1)))
noncomputable def b50_12 (k : Nat) (g8 : (List Int) → (List (Int × Int × Int × Int)) → Int → Int → Option (((List Int) × Unit) × Unit)) (g : ((Unit) × (List Int) × Int × (Int × Int × Int × Int × Unit) × Int × (List (Int × Int × Int × Int)) × Int × Int × Unit) → Option (((List Int) × Unit) × Unit)) (d : (Unit) × (List Int) × Int × (Int × Int × Int × Int × Unit) × Int × (List (Int × Int × Int × Int)) × Int × Int × Unit) : Option (((List Int) × Unit) × Unit) := l50_12 k g8 (fun out2 i x x1 x2 x3 k_ t20_1 t21_1 t22_1 => g ((), out2, i, (x, x1, x2, x3, ()), k_, t20_1, t21_1, t22_1, ())) d.2.1 d.2.2.1 d.2.2.2.1.1 d.2.2.2.1.2.1 d.2.2.2.1.2.2.1 d.2.2.2.1.2.2.2.1 d.2.2.2.2.1 d.2.2.2.2.2.1 d.2.2.2.2.2.2.1 d.2.2.2.2.2.2.2.1
noncomputable def L50_12 (k : Nat) (g8 : (List Int) → (List (Int × Int × Int × Int)) → Int → Int → Option (((List Int) × Unit) × Unit)) (j : Nat) (out2 : List Int) (i : Int) (x : Int) (x1 : Int) (x2 : Int) (x3 : Int) (k_ : Int) (t20_1 : List (Int × Int × Int × Int)) (t21_1 : Int) (t22_1 : Int) : Option (((List Int) × Unit) × Unit) := iter (R := ((List Int) × Unit) × Unit) c50_L12 (b50_12 k g8) j ((), out2, i, (x, x1, x2, x3, ()), k_, t20_1, t21_1, t22_1, ())
theorem L50_12_s (k : Nat) (g8 : (List Int) → (List (Int × Int × Int × Int)) → Int → Int → Option (((List Int) × Unit) × Unit)) (j : Nat) (out2 : List Int) (i : Int) (x : Int) (x1 : Int) (x2 : Int) (x3 : Int) (k_ : Int) (t20_1 : List (Int × Int × Int × Int)) (t21_1 : Int) (t22_1 : Int) : L50_12 k g8 (j + 1) out2 i x x1 x2 x3 k_ t20_1 t21_1 t22_1 = l50_12 k g8 (L50_12 k g8 j) out2 i x x1 x2 x3 k_ t20_1 t21_1 t22_1 := iter_succ _ _ _ _
noncomputable abbrev c50_L8 : Cut := ⟨[3, 20, 21, 22], [.own 2 (.int .i64), .cell (.sl 48 (.pair (.int .i64) (.pair (.int .i64) (.pair (.int .i64) (.int .i64))))), .cell (.int .i64), .cell (.int .i64)], [], 55⟩
noncomputable def l50_8 (k : Nat) (g8 : (List Int) → (List (Int × Int × Int × Int)) → Int → Int → Option (((List Int) × Unit) × Unit)) (out1 : List Int) (t20 : List (Int × Int × Int × Int)) (t21 : Int) (t22 : Int) : Option (((List Int) × Unit) × Unit) :=
  (bif decide (t22 < t21) then
    ix t20 t22 <|
    (bif (rd t20 t22 (0, 0, 0, 0)).1 != 8 then
      g8 out1 t20 t21 (IntKind.i64.wrap (t22 + 1))
    else
      L50_12 k g8 k out1 t22 (rd t20 t22 (0, 0, 0, 0)).1 (rd t20 t22 (0, 0, 0, 0)).2.1 (rd t20 t22 (0, 0, 0, 0)).2.2.1 (rd t20 t22 (0, 0, 0, 0)).2.2.2 (IntKind.i64.wrap (t22 + 1)) t20 t21 t22)
  else
    some ((out1, ()), ()))
noncomputable def b50_8 (k : Nat) (g : ((Unit) × (List Int) × (List (Int × Int × Int × Int)) × Int × Int × Unit) → Option (((List Int) × Unit) × Unit)) (d : (Unit) × (List Int) × (List (Int × Int × Int × Int)) × Int × Int × Unit) : Option (((List Int) × Unit) × Unit) := l50_8 k (fun out1 t20 t21 t22 => g ((), out1, t20, t21, t22, ())) d.2.1 d.2.2.1 d.2.2.2.1 d.2.2.2.2.1
noncomputable def L50_8 (k : Nat) (j : Nat) (out1 : List Int) (t20 : List (Int × Int × Int × Int)) (t21 : Int) (t22 : Int) : Option (((List Int) × Unit) × Unit) := iter (R := ((List Int) × Unit) × Unit) c50_L8 (b50_8 k) j ((), out1, t20, t21, t22, ())
theorem L50_8_s (k : Nat) (j : Nat) (out1 : List Int) (t20 : List (Int × Int × Int × Int)) (t21 : Int) (t22 : Int) : L50_8 k (j + 1) out1 t20 t21 t22 = l50_8 k (L50_8 k j) out1 t20 t21 t22 := iter_succ _ _ _ _
noncomputable abbrev c50_L3 : Cut := ⟨[0, 3, 12, 13], [.cell (.sl 48 (.pair (.int .i64) (.pair (.int .i64) (.pair (.int .i64) (.int .i64))))), .own 2 (.int .i64), .cell (.int .i64), .cell (.int .i64)], [], 55⟩
noncomputable def l50_3 (k : Nat) (g3 : (List (Int × Int × Int × Int)) → (List Int) → Int → Int → Option (((List Int) × Unit) × Unit)) (l_1 : List (Int × Int × Int × Int)) (out : List Int) (t12 : Int) (t13 : Int) : Option (((List Int) × Unit) × Unit) :=
  (bif decide (t13 < t12) then
    ix out t13 <|
    g3 l_1 (upd out t13 1) t12 (IntKind.i64.wrap (t13 + 1))
  else
    L50_8 k k out l_1 (l_1.length : Int) 0)
noncomputable def b50_3 (k : Nat) (g : ((Unit) × (List (Int × Int × Int × Int)) × (List Int) × Int × Int × Unit) → Option (((List Int) × Unit) × Unit)) (d : (Unit) × (List (Int × Int × Int × Int)) × (List Int) × Int × Int × Unit) : Option (((List Int) × Unit) × Unit) := l50_3 k (fun l_1 out t12 t13 => g ((), l_1, out, t12, t13, ())) d.2.1 d.2.2.1 d.2.2.2.1 d.2.2.2.2.1
noncomputable def L50_3 (k : Nat) (j : Nat) (l_1 : List (Int × Int × Int × Int)) (out : List Int) (t12 : Int) (t13 : Int) : Option (((List Int) × Unit) × Unit) := iter (R := ((List Int) × Unit) × Unit) c50_L3 (b50_3 k) j ((), l_1, out, t12, t13, ())
theorem L50_3_s (k : Nat) (j : Nat) (l_1 : List (Int × Int × Int × Int)) (out : List Int) (t12 : Int) (t13 : Int) : L50_3 k (j + 1) l_1 out t12 t13 = l50_3 k (L50_3 k j) l_1 out t12 t13 := iter_succ _ _ _ _
noncomputable def S50 (k : Nat) (l_ : List (Int × Int × Int × Int)) : Option (((List Int) × Unit) × Unit) :=
  mk (l_.length : Int) (l_.length : Int) 8 <|
  L50_3 k k l_ (List.replicate (l_.length : Int).toNat (0 : Int)) ((List.replicate (l_.length : Int).toNat (0 : Int)).length : Int) 0
noncomputable def E50 : Env := tab.env (lk [(38, F38)]) (hintL [])
theorem E50_ok : EnvOK Try.prog E50 := envOK_of tabOK _ _ (allFn_lk (l := [(38, F38)]) ⟨ok38, trivial⟩)
noncomputable def B50 (k : Nat) : Tbl (RD R50 × MD P50) := (.loop 8 c50_L8 (b50_8 k) (fun g => (fun (g8 : (List Int) → (List (Int × Int × Int × Int)) → Int → Int → Option (((List Int) × Unit) × Unit)) => (.loop 12 c50_L12 (b50_12 k g8) (fun g => .nil) .nil)) (fun out1 t20 t21 t22 => g ((), out1, t20, t21, t22, ()))) (.loop 3 c50_L3 (b50_3 k) (fun g => .nil) .nil))
noncomputable def F50 : Fn := ⟨P50, R50, fun k x => S50 k x.1⟩
theorem ok50 : FnOK Try.prog 50 F50 := evalF_ok (E := E50) (T := B50) E50_ok mix Try.func50 rfl (by kernel_rfl) (by kernel_rfl) (fun k => by kernel_rfl) (fun k x => by kernel_rfl)
/-! ### 39: 39 foliot/sat.Add -/
noncomputable abbrev P39 : List PT := [.val ⟨false, (.int .i64), false⟩, .val ⟨false, (.int .i64), false⟩]
noncomputable abbrev R39 : List RT := [.val ⟨false, (.int .i64), true⟩, .val ⟨false, .bool, true⟩]
noncomputable def S39 (k : Nat) (a : Int) (b : Int) : Option ((Int × Bool × Unit) × Unit) :=
  (bif decide ((iand .i64 (ixor .i64 a (IntKind.i64.wrap (IntKind.u64.wrap ((IntKind.u64.wrap a) + (IntKind.u64.wrap b))))) (ixor .i64 b (IntKind.i64.wrap (IntKind.u64.wrap ((IntKind.u64.wrap a) + (IntKind.u64.wrap b)))))) < 0) then
    (S56 k (decide (a < 0))).bind fun q0 =>
    some ((q0.1.1, q0.1.2.1, ()), ())
  else
    some ((IntKind.i64.wrap (IntKind.u64.wrap ((IntKind.u64.wrap a) + (IntKind.u64.wrap b))), true, ()), ()))
noncomputable def E39 : Env := tab.env (lk [(56, F56)]) (hintL [])
theorem E39_ok : EnvOK Try.prog E39 := envOK_of tabOK _ _ (allFn_lk (l := [(56, F56)]) ⟨ok56, trivial⟩)
noncomputable def B39 (k : Nat) : Tbl (RD R39 × MD P39) := .nil
noncomputable def F39 : Fn := ⟨P39, R39, fun k x => S39 k x.1 x.2.1⟩
theorem ok39 : FnOK Try.prog 39 F39 := evalF_ok (E := E39) (T := B39) E39_ok mix Try.func39 rfl (by kernel_rfl) (by kernel_rfl) (fun k => by kernel_rfl) (fun k x => by kernel_rfl)
/-! ### 52: 52 foliot/cost.sum -/
noncomputable abbrev P52 : List PT := [.val ⟨false, (.sl 2 (.int .i64)), false⟩]
noncomputable abbrev R52 : List RT := [.val ⟨false, (.int .i64), true⟩]
noncomputable abbrev c52_L2 : Cut := ⟨[2, 5, 6, 7], [.cell (.int .i64), .cell (.sl 2 (.int .i64)), .cell (.int .i64), .cell (.int .i64)], [], 19⟩
noncomputable def l52_2 (k : Nat) (g2 : Int → (List Int) → Int → Int → Option ((Int × Unit) × Unit)) (s : Int) (t5 : List Int) (t6 : Int) (t7 : Int) : Option ((Int × Unit) × Unit) :=
  (bif decide (t7 < t6) then
    ix t5 t7 <|
    (S39 k s (rd t5 t7 0)).bind fun q0 =>
    g2 q0.1.1 t5 t6 (IntKind.i64.wrap (t7 + 1))
  else
    some ((s, ()), ()))
noncomputable def b52_2 (k : Nat) (g : ((Unit) × Int × (List Int) × Int × Int × Unit) → Option ((Int × Unit) × Unit)) (d : (Unit) × Int × (List Int) × Int × Int × Unit) : Option ((Int × Unit) × Unit) := l52_2 k (fun s t5 t6 t7 => g ((), s, t5, t6, t7, ())) d.2.1 d.2.2.1 d.2.2.2.1 d.2.2.2.2.1
noncomputable def L52_2 (k : Nat) (j : Nat) (s : Int) (t5 : List Int) (t6 : Int) (t7 : Int) : Option ((Int × Unit) × Unit) := iter (R := (Int × Unit) × Unit) c52_L2 (b52_2 k) j ((), s, t5, t6, t7, ())
theorem L52_2_s (k : Nat) (j : Nat) (s : Int) (t5 : List Int) (t6 : Int) (t7 : Int) : L52_2 k (j + 1) s t5 t6 t7 = l52_2 k (L52_2 k j) s t5 t6 t7 := iter_succ _ _ _ _
noncomputable def S52 (k : Nat) (l_ : List Int) : Option ((Int × Unit) × Unit) :=
  L52_2 k k 0 l_ (l_.length : Int) 0
noncomputable def E52 : Env := tab.env (lk [(39, F39)]) (hintL [])
theorem E52_ok : EnvOK Try.prog E52 := envOK_of tabOK _ _ (allFn_lk (l := [(39, F39)]) ⟨ok39, trivial⟩)
noncomputable def B52 (k : Nat) : Tbl (RD R52 × MD P52) := (.loop 2 c52_L2 (b52_2 k) (fun g => .nil) .nil)
noncomputable def F52 : Fn := ⟨P52, R52, fun k x => S52 k x.1⟩
theorem ok52 : FnOK Try.prog 52 F52 := evalF_ok (E := E52) (T := B52) E52_ok mix Try.func52 rfl (by kernel_rfl) (by kernel_rfl) (fun k => by kernel_rfl) (fun k x => by kernel_rfl)
/-! ### 36: 36 foliot/cost.Of -/
noncomputable abbrev P36 : List PT := [.val ⟨false, (.sl 48 (.pair (.int .i64) (.pair (.int .i64) (.pair (.int .i64) (.int .i64))))), false⟩]
noncomputable abbrev R36 : List RT := [.val ⟨true, (.pair (.int .i64) (.pair (.int .i64) (.sl 61 (.pair (.int .i64) (.int .i64))))), true⟩, .val ⟨false, .bool, true⟩]
noncomputable abbrev c36_L7 : Cut := ⟨[2, 4, 5, 6, 24, 25, 26], [.box 63 [.cell (.int .i64), .cell (.int .i64), .own 61 (.pair (.int .i64) (.int .i64))], .own 2 (.int .i64), .cell (.int .i64), .own 3 (.int .i64), .cell (.sl 48 (.pair (.int .i64) (.pair (.int .i64) (.pair (.int .i64) (.int .i64))))), .cell (.int .i64), .cell (.int .i64)], [], 75⟩
noncomputable def l36_7 (k : Nat) (g7 : Int → Int → (List (Int × Int)) → (List Int) → Int → (List Int) → (List (Int × Int × Int × Int)) → Int → Int → Option (((Int × Int × List (Int × Int)) × Bool × Unit) × Unit)) (c : Int) (c1 : Int) (c2 : List (Int × Int)) (all : List Int) (from_ : Int) (pairs : List Int) (t24 : List (Int × Int × Int × Int)) (t25 : Int) (t26 : Int) : Option (((Int × Int × List (Int × Int)) × Bool × Unit) × Unit) :=
  (bif decide (t26 < t25) then
    ix t24 t26 <|
    (bif (rd t24 t26 (0, 0, 0, 0)).1 == 11 then
      sx all from_ (IntKind.i64.wrap (t26 + 1)) <|
      (S52 k (sub all from_ (IntKind.i64.wrap (t26 + 1)))).bind fun q4 =>
      g7 c (mx c1 q4.1.1) c2 all (IntKind.i64.wrap (t26 + 1)) pairs t24 t25 (IntKind.i64.wrap (t26 + 1))
    else
      (bif (rd t24 t26 (0, 0, 0, 0)).1 == 0 then
        sx all from_ (IntKind.i64.wrap (t26 + 1)) <|
        (S52 k (sub all from_ (IntKind.i64.wrap (t26 + 1)))).bind fun q5 =>
        g7 c (mx c1 q5.1.1) c2 all (IntKind.i64.wrap (t26 + 1)) pairs t24 t25 (IntKind.i64.wrap (t26 + 1))
      else
        (bif (rd t24 t26 (0, 0, 0, 0)).1 == 9 then
          ix pairs t26 <|
          sx all (IntKind.i64.wrap (t26 + 1)) (IntKind.i64.wrap ((rd pairs t26 0) + 1)) <|
          (S52 k (sub all (IntKind.i64.wrap (t26 + 1)) (IntKind.i64.wrap ((rd pairs t26 0) + 1)))).bind fun q6 =>
          ix all t26 <|
          nz (rd all t26 0) <|
          ap c2 ([((rd t24 t26 (0, 0, 0, 0)).2.1, IntKind.i64.wrap (Int.tdiv q6.1.1 (rd all t26 0)))] : List (Int × Int)) 16 fun r7 =>
          g7 c c1 r7 all from_ pairs t24 t25 (IntKind.i64.wrap (t26 + 1))
        else
          g7 c c1 c2 all from_ pairs t24 t25 (IntKind.i64.wrap (t26 + 1)))))
  else
    some (((c, c1, c2), true, ()), ()))
noncomputable def b36_7 (k : Nat) (g : ((Unit) × (Int × Int × (List (Int × Int)) × Unit) × (List Int) × Int × (List Int) × (List (Int × Int × Int × Int)) × Int × Int × Unit) → Option (((Int × Int × List (Int × Int)) × Bool × Unit) × Unit)) (d : (Unit) × (Int × Int × (List (Int × Int)) × Unit) × (List Int) × Int × (List Int) × (List (Int × Int × Int × Int)) × Int × Int × Unit) : Option (((Int × Int × List (Int × Int)) × Bool × Unit) × Unit) := l36_7 k (fun c c1 c2 all from_ pairs t24 t25 t26 => g ((), (c, c1, c2, ()), all, from_, pairs, t24, t25, t26, ())) d.2.1.1 d.2.1.2.1 d.2.1.2.2.1 d.2.2.1 d.2.2.2.1 d.2.2.2.2.1 d.2.2.2.2.2.1 d.2.2.2.2.2.2.1 d.2.2.2.2.2.2.2.1
noncomputable def L36_7 (k : Nat) (j : Nat) (c : Int) (c1 : Int) (c2 : List (Int × Int)) (all : List Int) (from_ : Int) (pairs : List Int) (t24 : List (Int × Int × Int × Int)) (t25 : Int) (t26 : Int) : Option (((Int × Int × List (Int × Int)) × Bool × Unit) × Unit) := iter (R := ((Int × Int × List (Int × Int)) × Bool × Unit) × Unit) c36_L7 (b36_7 k) j ((), (c, c1, c2, ()), all, from_, pairs, t24, t25, t26, ())
theorem L36_7_s (k : Nat) (j : Nat) (c : Int) (c1 : Int) (c2 : List (Int × Int)) (all : List Int) (from_ : Int) (pairs : List Int) (t24 : List (Int × Int × Int × Int)) (t25 : Int) (t26 : Int) : L36_7 k (j + 1) c c1 c2 all from_ pairs t24 t25 t26 = l36_7 k (L36_7 k j) c c1 c2 all from_ pairs t24 t25 t26 := iter_succ _ _ _ _
noncomputable def S36 (k : Nat) (l_ : List (Int × Int × Int × Int)) : Option (((Int × Int × List (Int × Int)) × Bool × Unit) × Unit) :=
  (S46 k l_).bind fun q0 =>
  (bif !q0.1.1 then
    some (((0, 0, []), false, ()), ())
  else
    (S50 k l_).bind fun q1 =>
    (S51 k l_).bind fun q2 =>
    (S52 k q1.1.1).bind fun q3 =>
    L36_7 k k q3.1.1 0 ([] : List (Int × Int)) q1.1.1 0 q2.1.1 l_ (l_.length : Int) 0)
noncomputable def E36 : Env := tab.env (lk [(46, F46), (50, F50), (51, F51), (52, F52)]) (hintL [(2, 2)])
theorem E36_ok : EnvOK Try.prog E36 := envOK_of tabOK _ _ (allFn_lk (l := [(46, F46), (50, F50), (51, F51), (52, F52)]) ⟨ok46, ok50, ok51, ok52, trivial⟩)
noncomputable def B36 (k : Nat) : Tbl (RD R36 × MD P36) := (.loop 7 c36_L7 (b36_7 k) (fun g => .nil) .nil)
noncomputable def F36 : Fn := ⟨P36, R36, fun k x => S36 k x.1⟩
theorem ok36 : FnOK Try.prog 36 F36 := evalF_ok (E := E36) (T := B36) E36_ok mix Try.func36 rfl (by kernel_rfl) (by kernel_rfl) (fun k => by kernel_rfl) (fun k x => by kernel_rfl)
/-! ### 49: 49 foliot/task.long -/
noncomputable abbrev P49 : List PT := [.val ⟨false, (.sl 48 (.pair (.int .i64) (.pair (.int .i64) (.pair (.int .i64) (.int .i64))))), false⟩]
noncomputable abbrev R49 : List RT := [.val ⟨false, (.int .i64), true⟩]
noncomputable def S49 (k : Nat) (l_ : List (Int × Int × Int × Int)) : Option ((Int × Unit) × Unit) :=
  (S36 k l_).bind fun q0 =>
  some ((q0.1.1.1, ()), ())
noncomputable def E49 : Env := tab.env (lk [(36, F36)]) (hintL [])
theorem E49_ok : EnvOK Try.prog E49 := envOK_of tabOK _ _ (allFn_lk (l := [(36, F36)]) ⟨ok36, trivial⟩)
noncomputable def B49 (k : Nat) : Tbl (RD R49 × MD P49) := .nil
noncomputable def F49 : Fn := ⟨P49, R49, fun k x => S49 k x.1⟩
theorem ok49 : FnOK Try.prog 49 F49 := evalF_ok (E := E49) (T := B49) E49_ok mix Try.func49 rfl (by kernel_rfl) (by kernel_rfl) (fun k => by kernel_rfl) (fun k x => by kernel_rfl)
/-! ### 35: 35 foliot/task.May -/
noncomputable abbrev P35 : List PT := [.val ⟨true, (.pair (.int .i64) (.pair (.int .i64) (.pair (.int .i64) (.pair (.sl 48 (.pair (.int .i64) (.pair (.int .i64) (.pair (.int .i64) (.int .i64))))) (.pair (.sl 48 (.pair (.int .i64) (.pair (.int .i64) (.pair (.int .i64) (.int .i64))))) (.sl 48 (.pair (.int .i64) (.pair (.int .i64) (.pair (.int .i64) (.int .i64)))))))))), false⟩]
noncomputable abbrev R35 : List RT := [.val ⟨false, (.int .i64), true⟩]
noncomputable def S35 (k : Nat) (t : Int × Int × Int × (List (Int × Int × Int × Int)) × (List (Int × Int × Int × Int)) × List (Int × Int × Int × Int)) : Option ((Int × Unit) × Unit) :=
  (bif decide (t.1 < 0) then
    some ((1, ()), ())
  else
    (bif decide (t.1 > 63) then
      some ((1, ()), ())
    else
      (bif decide (t.2.1 < 1) then
        some ((9, ()), ())
      else
        (bif decide (t.2.1 > 16384) then
          some ((9, ()), ())
        else
          (bif decide (t.2.2.1 < 1) then
            some ((9, ()), ())
          else
            (bif decide (t.2.2.1 > t.2.1) then
              some ((9, ()), ())
            else
              (S46 k t.2.2.2.1).bind fun q0 =>
              (bif !q0.1.1 then
                some ((2, ()), ())
              else
                (S47 k t.2.2.2.2.1).bind fun q1 =>
                (bif !q1.1.1 then
                  some ((2, ()), ())
                else
                  (S47 k t.2.2.2.2.2).bind fun q2 =>
                  (bif !q2.1.1 then
                    some ((2, ()), ())
                  else
                    (S48 k t.2.2.2.2.2).bind fun q3 =>
                    (bif q3.1.1 then
                      some ((2, ()), ())
                    else
                      (S49 k t.2.2.2.1).bind fun q4 =>
                      (bif decide (q4.1.1 > t.2.2.1) then
                        some ((10, ()), ())
                      else
                        (S49 k t.2.2.2.2.1).bind fun q5 =>
                        (S49 k t.2.2.2.1).bind fun q6 =>
                        (bif decide (q5.1.1 > q6.1.1) then
                          some ((12, ()), ())
                        else
                          some ((0, ()), ())))))))))))))
noncomputable def E35 : Env := tab.env (lk [(46, F46), (47, F47), (48, F48), (49, F49)]) (hintL [])
theorem E35_ok : EnvOK Try.prog E35 := envOK_of tabOK _ _ (allFn_lk (l := [(46, F46), (47, F47), (48, F48), (49, F49)]) ⟨ok46, ok47, ok48, ok49, trivial⟩)
noncomputable def B35 (k : Nat) : Tbl (RD R35 × MD P35) := .nil
noncomputable def F35 : Fn := ⟨P35, R35, fun k x => S35 k x.1⟩
theorem ok35 : FnOK Try.prog 35 F35 := evalF_ok (E := E35) (T := B35) E35_ok mix Try.func35 rfl (by kernel_rfl) (by kernel_rfl) (fun k => by kernel_rfl) (fun k x => by kernel_rfl)
/-! ### 22: 22 foliot/bound.row -/
noncomputable abbrev P22 : List PT := [.val ⟨false, (.sl 36 (.pair (.int .i64) (.pair (.int .i64) (.pair (.int .i64) (.pair (.sl 48 (.pair (.int .i64) (.pair (.int .i64) (.pair (.int .i64) (.int .i64))))) (.pair (.sl 48 (.pair (.int .i64) (.pair (.int .i64) (.pair (.int .i64) (.int .i64))))) (.sl 48 (.pair (.int .i64) (.pair (.int .i64) (.pair (.int .i64) (.int .i64))))))))))), false⟩]
noncomputable abbrev R22 : List RT := [.val ⟨false, .bool, true⟩]
noncomputable abbrev c22_L2 : Cut := ⟨[0, 5, 6, 7], [.cell (.sl 36 (.pair (.int .i64) (.pair (.int .i64) (.pair (.int .i64) (.pair (.sl 48 (.pair (.int .i64) (.pair (.int .i64) (.pair (.int .i64) (.int .i64))))) (.pair (.sl 48 (.pair (.int .i64) (.pair (.int .i64) (.pair (.int .i64) (.int .i64))))) (.sl 48 (.pair (.int .i64) (.pair (.int .i64) (.pair (.int .i64) (.int .i64))))))))))), .cell (.sl 36 (.pair (.int .i64) (.pair (.int .i64) (.pair (.int .i64) (.pair (.sl 48 (.pair (.int .i64) (.pair (.int .i64) (.pair (.int .i64) (.int .i64))))) (.pair (.sl 48 (.pair (.int .i64) (.pair (.int .i64) (.pair (.int .i64) (.int .i64))))) (.sl 48 (.pair (.int .i64) (.pair (.int .i64) (.pair (.int .i64) (.int .i64))))))))))), .cell (.int .i64), .cell (.int .i64)], [], 31⟩
noncomputable def l22_2 (k : Nat) (g2 : (List (Int × Int × Int × (List (Int × Int × Int × Int)) × (List (Int × Int × Int × Int)) × List (Int × Int × Int × Int))) → (List (Int × Int × Int × (List (Int × Int × Int × Int)) × (List (Int × Int × Int × Int)) × List (Int × Int × Int × Int))) → Int → Int → Option ((Bool × Unit) × Unit)) (l_1 : List (Int × Int × Int × (List (Int × Int × Int × Int)) × (List (Int × Int × Int × Int)) × List (Int × Int × Int × Int))) (t5 : List (Int × Int × Int × (List (Int × Int × Int × Int)) × (List (Int × Int × Int × Int)) × List (Int × Int × Int × Int))) (t6 : Int) (t7 : Int) : Option ((Bool × Unit) × Unit) :=
  (bif decide (t7 < t6) then
    ix t5 t7 <|
    (S35 k (rd t5 t7 (0, 0, 0, [], [], []))).bind fun q0 =>
    (bif q0.1.1 != 0 then
      some ((false, ()), ())
    else
      (bif decide (t7 > 0) then
        ix l_1 (IntKind.i64.wrap (t7 - 1)) <|
        (bif decide ((rd l_1 (IntKind.i64.wrap (t7 - 1)) (0, 0, 0, [], [], [])).1 ≥ (rd t5 t7 (0, 0, 0, [], [], [])).1) then
          some ((false, ()), ())
        else
          g2 l_1 t5 t6 (IntKind.i64.wrap (t7 + 1)))
      else
        g2 l_1 t5 t6 (IntKind.i64.wrap (t7 + 1))))
  else
    some ((true, ()), ()))
noncomputable def b22_2 (k : Nat) (g : ((Unit) × (List (Int × Int × Int × (List (Int × Int × Int × Int)) × (List (Int × Int × Int × Int)) × List (Int × Int × Int × Int))) × (List (Int × Int × Int × (List (Int × Int × Int × Int)) × (List (Int × Int × Int × Int)) × List (Int × Int × Int × Int))) × Int × Int × Unit) → Option ((Bool × Unit) × Unit)) (d : (Unit) × (List (Int × Int × Int × (List (Int × Int × Int × Int)) × (List (Int × Int × Int × Int)) × List (Int × Int × Int × Int))) × (List (Int × Int × Int × (List (Int × Int × Int × Int)) × (List (Int × Int × Int × Int)) × List (Int × Int × Int × Int))) × Int × Int × Unit) : Option ((Bool × Unit) × Unit) := l22_2 k (fun l_1 t5 t6 t7 => g ((), l_1, t5, t6, t7, ())) d.2.1 d.2.2.1 d.2.2.2.1 d.2.2.2.2.1
noncomputable def L22_2 (k : Nat) (j : Nat) (l_1 : List (Int × Int × Int × (List (Int × Int × Int × Int)) × (List (Int × Int × Int × Int)) × List (Int × Int × Int × Int))) (t5 : List (Int × Int × Int × (List (Int × Int × Int × Int)) × (List (Int × Int × Int × Int)) × List (Int × Int × Int × Int))) (t6 : Int) (t7 : Int) : Option ((Bool × Unit) × Unit) := iter (R := (Bool × Unit) × Unit) c22_L2 (b22_2 k) j ((), l_1, t5, t6, t7, ())
theorem L22_2_s (k : Nat) (j : Nat) (l_1 : List (Int × Int × Int × (List (Int × Int × Int × Int)) × (List (Int × Int × Int × Int)) × List (Int × Int × Int × Int))) (t5 : List (Int × Int × Int × (List (Int × Int × Int × Int)) × (List (Int × Int × Int × Int)) × List (Int × Int × Int × Int))) (t6 : Int) (t7 : Int) : L22_2 k (j + 1) l_1 t5 t6 t7 = l22_2 k (L22_2 k j) l_1 t5 t6 t7 := iter_succ _ _ _ _
noncomputable def S22 (k : Nat) (l_ : List (Int × Int × Int × (List (Int × Int × Int × Int)) × (List (Int × Int × Int × Int)) × List (Int × Int × Int × Int))) : Option ((Bool × Unit) × Unit) :=
  L22_2 k k l_ l_ (l_.length : Int) 0
noncomputable def E22 : Env := tab.env (lk [(35, F35)]) (hintL [])
theorem E22_ok : EnvOK Try.prog E22 := envOK_of tabOK _ _ (allFn_lk (l := [(35, F35)]) ⟨ok35, trivial⟩)
noncomputable def B22 (k : Nat) : Tbl (RD R22 × MD P22) := (.loop 2 c22_L2 (b22_2 k) (fun g => .nil) .nil)
noncomputable def F22 : Fn := ⟨P22, R22, fun k x => S22 k x.1⟩
theorem ok22 : FnOK Try.prog 22 F22 := evalF_ok (E := E22) (T := B22) E22_ok mix Try.func22 rfl (by kernel_rfl) (by kernel_rfl) (fun k => by kernel_rfl) (fun k x => by kernel_rfl)
/-! ### 53: 53 slices.Grow[[]foliot/api.Span,foliot/api.Span] -/
noncomputable abbrev P53 : List PT := [.pv (.nil), .val ⟨false, (.int .i64), false⟩]
noncomputable abbrev R53 : List RT := [.val ⟨false, (.sl 61 (.pair (.int .i64) (.int .i64))), true⟩]
noncomputable def S53 (k : Nat) (n : Int) : Option (((List (Int × Int)) × Unit) × Unit) :=
  (bif decide (n < 0) then
    none
  else
    (bif decide ((IntKind.i64.wrap (n - 0)) > 0) then
      az ([] : List (Int × Int)) (IntKind.i64.wrap (n - 0)) 16 (0, 0) fun r0 =>
      sx r0 0 0 <|
      some ((r0.take 0, ()), ())
    else
      some (([], ()), ())))
noncomputable def E53 : Env := tab.env (lk []) (hintL [(25, 1)])
theorem E53_ok : EnvOK Try.prog E53 := envOK_of tabOK _ _ (fun f F h => by cases h)
noncomputable def B53 (k : Nat) : Tbl (RD R53 × MD P53) := .nil
noncomputable def F53 : Fn := ⟨P53, R53, fun k x => S53 k x.2.1⟩
theorem ok53 : FnOK Try.prog 53 F53 := evalF_ok (E := E53) (T := B53) E53_ok mix Try.func53 rfl (by kernel_rfl) (by kernel_rfl) (fun k => by kernel_rfl) (fun k x => by kernel_rfl)
end Go.Proofs.Ytgmjmlgghdodoaa.Ab
