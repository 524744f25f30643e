import Derived.Test.YtkhahfpjnmebdaaAbF0
/- Contracts, printed by this session's own program gen.py. -/
set_option linter.unusedVariables false
set_option linter.unusedSimpArgs false
set_option maxRecDepth 100000
namespace Go.Proofs.Ytkhahfpjnmebdaa.Ab
open Go.RowKit Go.Proofs.YtkhahfpjnmebdaaW.PrintWords
/-! ### 6: 6 foliot/foliotlaw2.SlotsWild -/
noncomputable abbrev P6 : List PT := [.val ⟨false, (.sl 3 (.int .i64)), false⟩, .val ⟨false, (.sl 4 .bool), false⟩, .val ⟨true, (.pair (.int .i64) (.int .i64)), false⟩]
noncomputable abbrev R6 : List RT := [.val ⟨false, .bool, true⟩]
noncomputable abbrev c6_L17 : Cut := ⟨[0, 1, 5, 8, 9, 10, 11, 12, 13, 14, 15, 16, 17, 18, 19, 20, 21], [.cell (.sl 3 (.int .i64)), .cell (.sl 4 .bool), .box 24 [.cell (.int .i64), .cell (.int .i64)], .box 29 [.cell (.sl 3 (.int .i64)), .cell (.sl 4 .bool)], .box 31 [.cell (.sl 3 (.int .i64)), .cell (.sl 4 .bool)], .box 29 [.own 3 (.int .i64), .own 4 .bool], .box 24 [.cell (.int .i64), .cell (.int .i64)], .cell .bool, .box 31 [.own 3 (.int .i64), .own 4 .bool], .box 24 [.cell (.int .i64), .cell (.int .i64)], .cell .bool, .box 29 [.own 3 (.int .i64), .own 4 .bool], .cell .bool, .box 31 [.own 3 (.int .i64), .own 4 .bool], .cell .bool, .cell (.int .i64), .cell (.int .i64)], [], 133⟩
noncomputable def l6_17 (k : Nat) (g17 : (List Int) → (List Bool) → Int → Int → (List Int) → (List Bool) → (List Int) → (List Bool) → (List Int) → (List Bool) → Int → Int → Bool → (List Int) → (List Bool) → Int → Int → Bool → (List Int) → (List Bool) → Bool → (List Int) → (List Bool) → Bool → Int → Int → Option ((Bool × Unit) × Unit)) (gens2 : List Int) (is_2 : List Bool) (h3 : Int) (h4 : Int) (a : List Int) (a1 : List Bool) (b : List Int) (b1 : List Bool) (x : List Int) (x1 : List Bool) (g_ : Int) (g_1 : Int) (p : Bool) (y : List Int) (y1 : List Bool) (k_ : Int) (k_1 : Int) (q_ : Bool) (u : List Int) (u1 : List Bool) (r_ : Bool) (v : List Int) (v1 : List Bool) (s : Bool) (n : Int) (i1 : Int) : Option ((Bool × Unit) × Unit) :=
  (bif decide (i1 < (mn (gens2.length : Int) (is_2.length : Int))) then
    ix is_2 i1 <|
    (bif rd is_2 i1 false then
      g17 gens2 is_2 h3 h4 a a1 b b1 x x1 g_ g_1 p y y1 k_ k_1 q_ u u1 r_ v v1 s (IntKind.i64.wrap (n + 1)) (IntKind.i64.wrap (i1 + 1))
    else
      g17 gens2 is_2 h3 h4 a a1 b b1 x x1 g_ g_1 p y y1 k_ k_1 q_ u u1 r_ v v1 s n (IntKind.i64.wrap (i1 + 1)))
  else
    (bif beqD (.pair (.int .i64) (.int .i64)) (g_, g_1) (k_, k_1) then
      (bif p == q_ then
        (S14 k (x, x1) (y, y1)).bind fun q5 =>
        (bif q5.1.1 then
          (bif r_ == s then
            (S14 k (u, u1) (v, v1)).bind fun q6 =>
            (bif q6.1.1 then
              (S15 k (a, a1) (h3, h4)).bind fun q7 =>
              (S16 k (b, b1) (h3, h4)).bind fun q8 =>
              (bif q7.1.1 == q8.1.1 then
                (S17 k (a, a1)).bind fun q9 =>
                some ((q9.1.1 == n, ()), ())
              else
                some ((false, ()), ()))
            else
              some ((false, ()), ()))
          else
            some ((false, ()), ()))
        else
          some ((false, ()), ()))
      else
        some ((false, ()), ()))
    else
      some ((false, ()), ())))
noncomputable def b6_17 (k : Nat) (g : ((Unit) × (List Int) × (List Bool) × (Int × Int × Unit) × ((List Int) × (List Bool) × Unit) × ((List Int) × (List Bool) × Unit) × ((List Int) × (List Bool) × Unit) × (Int × Int × Unit) × Bool × ((List Int) × (List Bool) × Unit) × (Int × Int × Unit) × Bool × ((List Int) × (List Bool) × Unit) × Bool × ((List Int) × (List Bool) × Unit) × Bool × Int × Int × Unit) → Option ((Bool × Unit) × Unit)) (d : (Unit) × (List Int) × (List Bool) × (Int × Int × Unit) × ((List Int) × (List Bool) × Unit) × ((List Int) × (List Bool) × Unit) × ((List Int) × (List Bool) × Unit) × (Int × Int × Unit) × Bool × ((List Int) × (List Bool) × Unit) × (Int × Int × Unit) × Bool × ((List Int) × (List Bool) × Unit) × Bool × ((List Int) × (List Bool) × Unit) × Bool × Int × Int × Unit) : Option ((Bool × Unit) × Unit) := l6_17 k (fun gens2 is_2 h3 h4 a a1 b b1 x x1 g_ g_1 p y y1 k_ k_1 q_ u u1 r_ v v1 s n i1 => g ((), gens2, is_2, (h3, h4, ()), (a, a1, ()), (b, b1, ()), (x, x1, ()), (g_, g_1, ()), p, (y, y1, ()), (k_, k_1, ()), q_, (u, u1, ()), r_, (v, v1, ()), s, n, i1, ())) d.2.1 d.2.2.1 d.2.2.2.1.1 d.2.2.2.1.2.1 d.2.2.2.2.1.1 d.2.2.2.2.1.2.1 d.2.2.2.2.2.1.1 d.2.2.2.2.2.1.2.1 d.2.2.2.2.2.2.1.1 d.2.2.2.2.2.2.1.2.1 d.2.2.2.2.2.2.2.1.1 d.2.2.2.2.2.2.2.1.2.1 d.2.2.2.2.2.2.2.2.1 d.2.2.2.2.2.2.2.2.2.1.1 d.2.2.2.2.2.2.2.2.2.1.2.1 d.2.2.2.2.2.2.2.2.2.2.1.1 d.2.2.2.2.2.2.2.2.2.2.1.2.1 d.2.2.2.2.2.2.2.2.2.2.2.1 d.2.2.2.2.2.2.2.2.2.2.2.2.1.1 d.2.2.2.2.2.2.2.2.2.2.2.2.1.2.1 d.2.2.2.2.2.2.2.2.2.2.2.2.2.1 d.2.2.2.2.2.2.2.2.2.2.2.2.2.2.1.1 d.2.2.2.2.2.2.2.2.2.2.2.2.2.2.1.2.1 d.2.2.2.2.2.2.2.2.2.2.2.2.2.2.2.1 d.2.2.2.2.2.2.2.2.2.2.2.2.2.2.2.2.1 d.2.2.2.2.2.2.2.2.2.2.2.2.2.2.2.2.2.1
noncomputable def L6_17 (k : Nat) (j : Nat) (gens2 : List Int) (is_2 : List Bool) (h3 : Int) (h4 : Int) (a : List Int) (a1 : List Bool) (b : List Int) (b1 : List Bool) (x : List Int) (x1 : List Bool) (g_ : Int) (g_1 : Int) (p : Bool) (y : List Int) (y1 : List Bool) (k_ : Int) (k_1 : Int) (q_ : Bool) (u : List Int) (u1 : List Bool) (r_ : Bool) (v : List Int) (v1 : List Bool) (s : Bool) (n : Int) (i1 : Int) : Option ((Bool × Unit) × Unit) := iter (R := (Bool × Unit) × Unit) c6_L17 (b6_17 k) j ((), gens2, is_2, (h3, h4, ()), (a, a1, ()), (b, b1, ()), (x, x1, ()), (g_, g_1, ()), p, (y, y1, ()), (k_, k_1, ()), q_, (u, u1, ()), r_, (v, v1, ()), s, n, i1, ())
theorem L6_17_s (k : Nat) (j : Nat) (gens2 : List Int) (is_2 : List Bool) (h3 : Int) (h4 : Int) (a : List Int) (a1 : List Bool) (b : List Int) (b1 : List Bool) (x : List Int) (x1 : List Bool) (g_ : Int) (g_1 : Int) (p : Bool) (y : List Int) (y1 : List Bool) (k_ : Int) (k_1 : Int) (q_ : Bool) (u : List Int) (u1 : List Bool) (r_ : Bool) (v : List Int) (v1 : List Bool) (s : Bool) (n : Int) (i1 : Int) : L6_17 k (j + 1) gens2 is_2 h3 h4 a a1 b b1 x x1 g_ g_1 p y y1 k_ k_1 q_ u u1 r_ v v1 s n i1 = l6_17 k (L6_17 k j) gens2 is_2 h3 h4 a a1 b b1 x x1 g_ g_1 p y y1 k_ k_1 q_ u u1 r_ v v1 s n i1 := iter_succ _ _ _ _
noncomputable abbrev c6_L6 : Cut := ⟨[0, 1, 5, 7], [.cell (.sl 3 (.int .i64)), .cell (.sl 4 .bool), .box 24 [.cell (.int .i64), .cell (.int .i64)], .cell (.int .i64)], [], 133⟩
noncomputable def l6_6 (k : Nat) (g6 : (List Int) → (List Bool) → Int → Int → Int → Option ((Bool × Unit) × Unit)) (gens1 : List Int) (is_1 : List Bool) (h1 : Int) (h2 : Int) (i : Int) : Option ((Bool × Unit) × Unit) :=
  (bif decide (i < (gens1.length : Int)) then
    ix gens1 i <|
    (bif decide ((rd gens1 i 0) > 1099511627776) then
      some ((true, ()), ())
    else
      ix gens1 i <|
      (bif decide ((rd gens1 i 0) < (-1099511627776)) then
        some ((true, ()), ())
      else
        g6 gens1 is_1 h1 h2 (IntKind.i64.wrap (i + 1))))
  else
    (S10 k (gens1, is_1)).bind fun q1 =>
    (S11 k (gens1, is_1)).bind fun q2 =>
    (S12 k (gens1, is_1) (h1, h2)).bind fun q3 =>
    (S13 k (gens1, is_1) (h1, h2)).bind fun q4 =>
    L6_17 k k gens1 is_1 h1 h2 gens1 is_1 gens1 is_1 q1.1.1.1 q1.1.1.2 q1.1.2.1.1 q1.1.2.1.2 q1.1.2.2.1 q2.1.1.1 q2.1.1.2 q2.1.2.1.1 q2.1.2.1.2 q2.1.2.2.1 q3.1.1.1 q3.1.1.2 q3.1.2.1 q4.1.1.1 q4.1.1.2 q4.1.2.1 0 0)
noncomputable def b6_6 (k : Nat) (g : ((Unit) × (List Int) × (List Bool) × (Int × Int × Unit) × Int × Unit) → Option ((Bool × Unit) × Unit)) (d : (Unit) × (List Int) × (List Bool) × (Int × Int × Unit) × Int × Unit) : Option ((Bool × Unit) × Unit) := l6_6 k (fun gens1 is_1 h1 h2 i => g ((), gens1, is_1, (h1, h2, ()), i, ())) d.2.1 d.2.2.1 d.2.2.2.1.1 d.2.2.2.1.2.1 d.2.2.2.2.1
noncomputable def L6_6 (k : Nat) (j : Nat) (gens1 : List Int) (is_1 : List Bool) (h1 : Int) (h2 : Int) (i : Int) : Option ((Bool × Unit) × Unit) := iter (R := (Bool × Unit) × Unit) c6_L6 (b6_6 k) j ((), gens1, is_1, (h1, h2, ()), i, ())
theorem L6_6_s (k : Nat) (j : Nat) (gens1 : List Int) (is_1 : List Bool) (h1 : Int) (h2 : Int) (i : Int) : L6_6 k (j + 1) gens1 is_1 h1 h2 i = l6_6 k (L6_6 k j) gens1 is_1 h1 h2 i := iter_succ _ _ _ _
noncomputable def S6 (k : Nat) (gens : List Int) (is_ : List Bool) (h : Int × Int) : Option ((Bool × Unit) × Unit) :=
  (S7 k).bind fun q0 =>
  (bif !q0.1.1 then
    some ((false, ()), ())
  else
    (bif decide ((gens.length : Int) > 10) then
      some ((true, ()), ())
    else
      (bif decide ((is_.length : Int) > 10) then
        some ((true, ()), ())
      else
        L6_6 k k gens is_ h.1 h.2 0)))
noncomputable def E6 : Env := tab.env (lk [(7, F7), (10, F10), (11, F11), (12, F12), (13, F13), (14, F14), (15, F15), (16, F16), (17, F17)]) (hintL [])
theorem E6_ok : EnvOK Try.prog E6 := envOK_of tabOK _ _ (allFn_lk (l := [(7, F7), (10, F10), (11, F11), (12, F12), (13, F13), (14, F14), (15, F15), (16, F16), (17, F17)]) ⟨ok7, ok10, ok11, ok12, ok13, ok14, ok15, ok16, ok17, trivial⟩)
noncomputable def B6 (k : Nat) : Tbl (RD R6 × MD P6) := (.loop 17 c6_L17 (b6_17 k) (fun g => .nil) (.loop 6 c6_L6 (b6_6 k) (fun g => .nil) .nil))
noncomputable def F6 : Fn := ⟨P6, R6, fun k x => S6 k x.1 x.2.1 x.2.2.1⟩
theorem ok6 : FnOK Try.prog 6 F6 := evalF_ok (E := E6) (T := B6) E6_ok mix Try.func6 rfl (by kernel_rfl) (by kernel_rfl) (fun k => by kernel_rfl) (fun k x => by kernel_rfl)
end Go.Proofs.Ytkhahfpjnmebdaa.Ab
