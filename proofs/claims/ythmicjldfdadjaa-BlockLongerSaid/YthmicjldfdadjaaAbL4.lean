import Derived.Test.YthmicjldfdadjaaAbL3
/- Contracts, printed by this session's own program gen.py. -/
set_option linter.unusedVariables false
set_option linter.unusedSimpArgs false
set_option maxRecDepth 100000
namespace Go.Proofs.Ythmicjldfdadjaa.Ab
open Go.RowKit Go.Proofs.YthmicjldfdadjaaW.PrintWords
abbrev Y4_0 : Type := Int × Int × Int × (List (Int × Int × Int × Int)) × (List (Int × Int × Int × Int)) × List (Int × Int × Int × Int)
abbrev Y4_1 : Ty := .sl 42 (.pair (.int .i64) (.pair (.int .i64) (.pair (.int .i64) (.int .i64))))
noncomputable abbrev P10 : List PT := [.val ⟨false, (.sl 5 (.int .u8)), false⟩, .val ⟨false, (.int .u8), false⟩]
noncomputable abbrev R10 : List RT := [.val ⟨false, .bool, true⟩]
noncomputable abbrev c10_L15 : Cut := ⟨[5, 6, 7, 9], [.cell (.sl 24 (.pair (.int .i64) (.pair (.int .i64) (.pair (.int .i64) (.pair Y4_1 (.pair Y4_1 Y4_1)))))), .cell (.int .i64), .own 24 (.pair (.int .i64) (.pair (.int .i64) (.pair (.int .i64) (.pair Y4_1 (.pair Y4_1 Y4_1))))), .cell (.int .i64)], [], 97⟩
noncomputable def l10_15 (k : Nat) (g15 : (List Y4_0) → Int → (List Y4_0) → Int → Option ((Bool × Unit) × Unit)) (l_ : List Y4_0) (k_ : Int) (m : List Y4_0) (i : Int) : Option ((Bool × Unit) × Unit) :=
 (bif decide (i < (l_.length : Int)) then
  (S23 k l_ i).bind fun q5 =>
  (S23 k m i).bind fun q6 =>
  ix m k_ <|
  (S19 k (rd m k_ (0, 0, 0, [], [], []))).bind fun q7 =>
  (bif q7.1.1 != 0 then
   some ((true, ()), ())
  else
   (bif i == k_ then
    (bif q5.1.1 != q6.1.1 then
     some ((false, ()), ())
    else
     (bif i != k_ then
      (bif q6.1.1 != q5.1.1 then
       (bif q6.1.1 != (mx q5.1.1 2) then
        some ((false, ()), ())
       else
        (bif decide (i < k_) then
         some ((false, ()), ())
        else
         g15 l_ k_ m (IntKind.i64.wrap (i + 1))))
      else
       g15 l_ k_ m (IntKind.i64.wrap (i + 1)))
     else
      g15 l_ k_ m (IntKind.i64.wrap (i + 1))))
   else
    (bif i != k_ then
     (bif q6.1.1 != q5.1.1 then
      (bif q6.1.1 != (mx q5.1.1 2) then
       some ((false, ()), ())
      else
       (bif decide (i < k_) then
        some ((false, ()), ())
       else
        g15 l_ k_ m (IntKind.i64.wrap (i + 1))))
     else
      g15 l_ k_ m (IntKind.i64.wrap (i + 1)))
    else
     g15 l_ k_ m (IntKind.i64.wrap (i + 1)))))
 else
  some ((true, ()), ()))
noncomputable def b10_15 (k : Nat) (g : ((Unit) × (List Y4_0) × Int × (List Y4_0) × Int × Unit) → Option ((Bool × Unit) × Unit)) (d : (Unit) × (List Y4_0) × Int × (List Y4_0) × Int × Unit) : Option ((Bool × Unit) × Unit) := l10_15 k (fun l_ k_ m i => g ((), l_, k_, m, i, ())) d.2.1 d.2.2.1 d.2.2.2.1 d.2.2.2.2.1
noncomputable def L10_15 (k : Nat) (j : Nat) (l_ : List Y4_0) (k_ : Int) (m : List Y4_0) (i : Int) : Option ((Bool × Unit) × Unit) := iter (R := (Bool × Unit) × Unit) c10_L15 (b10_15 k) j ((), l_, k_, m, i, ())
theorem L10_15_s (k : Nat) (j : Nat) (l_ : List Y4_0) (k_ : Int) (m : List Y4_0) (i : Int) : L10_15 k (j + 1) l_ k_ m i = l10_15 k (L10_15 k j) l_ k_ m i := iter_succ _ _ _ _
noncomputable def S10 (k : Nat) (picks : List Int) (who : Int) : Option ((Bool × Unit) × Unit) :=
 (S21 k).bind fun q0 =>
 (bif !q0.1.1 then
  some ((false, ()), ())
 else
  (bif decide ((picks.length : Int) > 250) then
   some ((true, ()), ())
  else
   (S22 k picks 5).bind fun q1 =>
   (bif (q1.1.1.length : Int) == 0 then
    some ((true, ()), ())
   else
    nz (q1.1.1.length : Int) <|
    ap ([] : List Y4_0) q1.1.1 96 fun r2 =>
    ix q1.1.1 (Int.tmod (IntKind.i64.wrap who) (q1.1.1.length : Int)) <|
    ap ([] : List (Int × Int × Int × Int)) (rd q1.1.1 (Int.tmod (IntKind.i64.wrap who) (q1.1.1.length : Int)) (0, 0, 0, [], [], [])).2.2.2.1 32 fun r3 =>
    (bif decide ((r3.length : Int) > 20) then
     some ((true, ()), ())
    else
     ap ([(9, 3, 0, 0), (1, 5, 0, 0), (10, 3, 0, 0)] : List (Int × Int × Int × Int)) r3 32 fun r4 =>
     ix r2 (Int.tmod (IntKind.i64.wrap who) (q1.1.1.length : Int)) <|
     L10_15 k k q1.1.1 (Int.tmod (IntKind.i64.wrap who) (q1.1.1.length : Int)) (upd r2 (Int.tmod (IntKind.i64.wrap who) (q1.1.1.length : Int)) ((rd r2 (Int.tmod (IntKind.i64.wrap who) (q1.1.1.length : Int)) (0, 0, 0, [], [], [])).1, (rd r2 (Int.tmod (IntKind.i64.wrap who) (q1.1.1.length : Int)) (0, 0, 0, [], [], [])).2.1, (rd r2 (Int.tmod (IntKind.i64.wrap who) (q1.1.1.length : Int)) (0, 0, 0, [], [], [])).2.2.1, r4, (rd r2 (Int.tmod (IntKind.i64.wrap who) (q1.1.1.length : Int)) (0, 0, 0, [], [], [])).2.2.2.2)) 0))))
noncomputable def E10 : Env := tab.env (lk [(19, F19), (21, F21), (22, F22), (23, F23)]) (hintL [])
theorem E10_ok : EnvOK Try.prog E10 := envOK_of tabOK _ _ (allFn_lk (l := [(19, F19), (21, F21), (22, F22), (23, F23)]) ⟨ok19, ok21, ok22, ok23, trivial⟩)
noncomputable def B10 (k : Nat) : Tbl (RD R10 × MD P10) := (.loop 15 c10_L15 (b10_15 k) (fun g => .nil) .nil)
noncomputable def F10 : Fn := ⟨P10, R10, fun k x => S10 k x.1 x.2.1⟩
theorem ok10 : FnOK Try.prog 10 F10 := evalF_ok (E := E10) (T := B10) E10_ok mix Try.func10 rfl (by kernel_rfl) (by kernel_rfl) (fun k => by kernel_rfl) (fun k x => by kernel_rfl)
end Go.Proofs.Ythmicjldfdadjaa.Ab
