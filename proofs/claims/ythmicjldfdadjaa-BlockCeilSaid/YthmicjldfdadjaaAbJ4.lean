import Derived.Test.YthmicjldfdadjaaAbJ3
/- Contracts, printed by this session's own program gen.py. -/
set_option linter.unusedVariables false
set_option linter.unusedSimpArgs false
set_option maxRecDepth 100000
namespace Go.Proofs.Ythmicjldfdadjaa.Ab
open Go.RowKit Go.Proofs.YthmicjldfdadjaaW.PrintWords
abbrev Y4_0 : Type := Int × Int × Int × (List (Int × Int × Int × Int)) × (List (Int × Int × Int × Int)) × List (Int × Int × Int × Int)
abbrev Y4_1 : Ty := .sl 42 (.pair (.int .i64) (.pair (.int .i64) (.pair (.int .i64) (.int .i64))))
abbrev Y4_2 : Type := Int → (List Y4_0) → Int → Int → Option ((Bool × Unit) × Unit)
abbrev Y4_3 : Type := (Bool × Unit) × Unit
noncomputable abbrev P8 : List PT := [.val ⟨false, (.sl 5 (.int .u8)), false⟩, .val ⟨false, (.int .u8), false⟩]
noncomputable abbrev R8 : List RT := [.val ⟨false, .bool, true⟩]
noncomputable abbrev c8_L13 : Cut := ⟨[1, 5, 6, 7, 8, 11, 12], [.cell (.int .u8), .own 24 (.pair (.int .i64) (.pair (.int .i64) (.pair (.int .i64) (.pair Y4_1 (.pair Y4_1 Y4_1))))), .cell (.int .i64), .cell (.int .i64), .cell .bool, .own 39 (.pair (.int .i64) (.int .i64)), .cell (.int .i64)], [], 85⟩
noncomputable def l8_13 (k : Nat) (g8 : Y4_2) (g13 : Int → (List Y4_0) → Int → Int → Bool → (List (Int × Int)) → Int → Option Y4_3) (s2 : Int) (l_1 : List Y4_0) (c1 : Int) (i1 : Int) (locks : Bool) (spans : List (Int × Int)) (k_ : Int) : Option Y4_3 :=
 (bif decide (k_ < (spans.length : Int)) then
  (bif locks then
   g13 s2 l_1 c1 i1 true spans (IntKind.i64.wrap (k_ + 1))
  else
   ix spans k_ <|
   g13 s2 l_1 c1 i1 ((rd spans k_ (0, 0)).1 == (IntKind.i64.wrap (Int.tmod s2 4))) spans (IntKind.i64.wrap (k_ + 1)))
 else
  (bif locks then
   (bif decide (i1 < c1) then
    some ((false, ()), ())
   else
    (bif !locks then
     (bif i1 == c1 then
      some ((false, ()), ())
     else
      g8 s2 l_1 c1 (IntKind.i64.wrap (i1 + 1)))
    else
     g8 s2 l_1 c1 (IntKind.i64.wrap (i1 + 1))))
  else
   (bif !locks then
    (bif i1 == c1 then
     some ((false, ()), ())
    else
     g8 s2 l_1 c1 (IntKind.i64.wrap (i1 + 1)))
   else
    g8 s2 l_1 c1 (IntKind.i64.wrap (i1 + 1)))))
noncomputable def b8_13 (k : Nat) (g8 : Y4_2) (g : ((Unit) × Int × (List Y4_0) × Int × Int × Bool × (List (Int × Int)) × Int × Unit) → Option Y4_3) (d : (Unit) × Int × (List Y4_0) × Int × Int × Bool × (List (Int × Int)) × Int × Unit) : Option Y4_3 := l8_13 k g8 (fun s2 l_1 c1 i1 locks spans k_ => g ((), s2, l_1, c1, i1, locks, spans, k_, ())) d.2.1 d.2.2.1 d.2.2.2.1 d.2.2.2.2.1 d.2.2.2.2.2.1 d.2.2.2.2.2.2.1 d.2.2.2.2.2.2.2.1
noncomputable def L8_13 (k : Nat) (g8 : Y4_2) (j : Nat) (s2 : Int) (l_1 : List Y4_0) (c1 : Int) (i1 : Int) (locks : Bool) (spans : List (Int × Int)) (k_ : Int) : Option Y4_3 := iter (R := (Bool × Unit) × Unit) c8_L13 (b8_13 k g8) j ((), s2, l_1, c1, i1, locks, spans, k_, ())
theorem L8_13_s (k : Nat) (g8 : Y4_2) (j : Nat) (s2 : Int) (l_1 : List Y4_0) (c1 : Int) (i1 : Int) (locks : Bool) (spans : List (Int × Int)) (k_ : Int) : L8_13 k g8 (j + 1) s2 l_1 c1 i1 locks spans k_ = l8_13 k g8 (L8_13 k g8 j) s2 l_1 c1 i1 locks spans k_ := iter_succ _ _ _ _
noncomputable abbrev c8_L8 : Cut := ⟨[1, 5, 6, 7], [.cell (.int .u8), .own 24 (.pair (.int .i64) (.pair (.int .i64) (.pair (.int .i64) (.pair Y4_1 (.pair Y4_1 Y4_1))))), .cell (.int .i64), .cell (.int .i64)], [], 85⟩
noncomputable def l8_8 (k : Nat) (g8 : Y4_2) (s1 : Int) (l_ : List Y4_0) (c : Int) (i : Int) : Option Y4_3 :=
 (bif decide (i < (l_.length : Int)) then
  ix l_ i <|
  (S17 k (rd l_ i (0, 0, 0, [], [], []))).bind fun q3 =>
  L8_13 k g8 k s1 l_ c i false q3.1.2.2.1 0
 else
  (bif decide (c ≥ 0) then
   (bif decide (c < (l_.length : Int)) then
    some ((true, ()), ())
   else
    some ((c == 8, ()), ()))
  else
   some ((false, ()), ())))
noncomputable def b8_8 (k : Nat) (g : ((Unit) × Int × (List Y4_0) × Int × Int × Unit) → Option Y4_3) (d : (Unit) × Int × (List Y4_0) × Int × Int × Unit) : Option Y4_3 := l8_8 k (fun s1 l_ c i => g ((), s1, l_, c, i, ())) d.2.1 d.2.2.1 d.2.2.2.1 d.2.2.2.2.1
noncomputable def L8_8 (k : Nat) (j : Nat) (s1 : Int) (l_ : List Y4_0) (c : Int) (i : Int) : Option Y4_3 := iter (R := (Bool × Unit) × Unit) c8_L8 (b8_8 k) j ((), s1, l_, c, i, ())
theorem L8_8_s (k : Nat) (j : Nat) (s1 : Int) (l_ : List Y4_0) (c : Int) (i : Int) : L8_8 k (j + 1) s1 l_ c i = l8_8 k (L8_8 k j) s1 l_ c i := iter_succ _ _ _ _
noncomputable def S8 (k : Nat) (picks : List Int) (s : Int) : Option Y4_3 :=
 (S21 k).bind fun q0 =>
 (bif !q0.1.1 then
  some ((false, ()), ())
 else
  (bif decide ((picks.length : Int) > 250) then
   some ((true, ()), ())
  else
   (S22 k picks 5).bind fun q1 =>
   (S25 k q1.1.1 (IntKind.i64.wrap (Int.tmod s 4))).bind fun q2 =>
   L8_8 k k s q1.1.1 q2.1.1 0))
noncomputable def E8 : Env := tab.env (lk [(17, F17), (21, F21), (22, F22), (25, F25)]) (hintL [])
theorem E8_ok : EnvOK Try.prog E8 := envOK_of tabOK _ _ (allFn_lk (l := [(17, F17), (21, F21), (22, F22), (25, F25)]) ⟨ok17, ok21, ok22, ok25, trivial⟩)
noncomputable def B8 (k : Nat) : Tbl (RD R8 × MD P8) := (.loop 8 c8_L8 (b8_8 k) (fun g => (fun (g8 : Y4_2) => (.loop 13 c8_L13 (b8_13 k g8) (fun g => .nil) .nil)) (fun s1 l_ c i => g ((), s1, l_, c, i, ()))) .nil)
noncomputable def F8 : Fn := ⟨P8, R8, fun k x => S8 k x.1 x.2.1⟩
theorem ok8 : FnOK Try.prog 8 F8 := evalF_ok (E := E8) (T := B8) E8_ok mix Try.func8 rfl (by kernel_rfl) (by kernel_rfl) (fun k => by kernel_rfl) (fun k x => by kernel_rfl)
end Go.Proofs.Ythmicjldfdadjaa.Ab
