import Derived.Test.YtmmagcjlfcicfaaGreatAbN12
/- Contracts, printed by this session's own program gen.py. -/
set_option linter.unusedVariables false
set_option linter.unusedSimpArgs false
set_option maxRecDepth 100000
namespace Go.Proofs.YtmmagcjlfcicfaaGreat.Ab
open Go.RowKit
abbrev Y13_0 : Ty := .pair (.int .i64) (.pair (.int .i64) (.int .i64))
noncomputable abbrev P4 : List PT := [.val ⟨false, (.int .i64), false⟩, .val ⟨false, (.int .i64), false⟩, .val ⟨false, (.int .i64), false⟩]
noncomputable abbrev R4 : List RT := [.val ⟨false, .bool, true⟩]
noncomputable abbrev c4_J6 : Cut := ⟨[0, 1, 2, 7, 8], [.cell (.int .i64), .cell (.int .i64), .cell (.int .i64), .box 37 [.cell (.int .i64), .cell (.int .i64), .own 77 (.pair (.int .i64) (.pair (.int .i64) (.pair (.int .i64) (.pair (.sl 87 (.pair (.int .i64) Y13_0)) (.pair (.sl 87 (.pair (.int .i64) Y13_0)) (.sl 87 (.pair (.int .i64) Y13_0))))))), .own 96 (arrT 5 (.int .i64)), .cell .bool, .cell .bool, .cell .bool, .own 94 (.pair (.int .i64) (.pair (.int .i64) (.pair (.int .i64) (.pair (.int .i64) (.pair (.pair (.int .i64) (.pair (arrT 8 (.int .i64)) (.pair (.sl 233 Y13_0) .bool))) (.pair (.pair (.int .i64) (.pair (arrT 8 (.int .i64)) (.pair (.sl 233 Y13_0) .bool))) (.pair (.sl 3 (.int .i64)) .bool))))))), .own 3 (.int .i64), .own 4 .bool, .own 124 (.pair (.int .i64) (.pair (.pair (.int .i64) (.int .i64)) (.pair (.pair (.int .i64) (.int .i64)) (.pair (.pair (.sl 2 (.int .i64)) (.sl 3 (.int .i64))) (.pair (.pair (.int .u32) (.sl 297 (.pair (.int .i64) (.int .u32)))) (.int .u32)))))), .own 3 (.int .i64), .own 4 .bool], .cell .bool], [], 120, []⟩
noncomputable def j4_6 (k : Nat) (apart1 : Int) (place1 : Int) (in_1 : Int) (k_ : Int) (k_1 : Int) (k_2 : List (Int × Int × Int × (List (Int × Int × Int × Int)) × (List (Int × Int × Int × Int)) × List (Int × Int × Int × Int))) (k_3 : List (PN Int 5)) (k_4 : Bool) (k_5 : Bool) (k_6 : Bool) (k_7 : List (Int × Int × Int × Int × (Int × (PN Int 8) × (List (Int × Int × Int)) × Bool) × (Int × (PN Int 8) × (List (Int × Int × Int)) × Bool) × (List Int) × Bool)) (k_8 : List Int) (k_9 : List Bool) (k_10 : List (Int × (Int × Int) × (Int × Int) × ((List Int) × List Int) × (Int × List (Int × Int)) × Int)) (k_11 : List Int) (k_12 : List Bool) (ok : Bool) : Option ((Bool × Unit) × Unit) :=
 (bif !ok then
  (bif k_1 == 0 then
   some (((k_10.length : Int) == 0, ()), ())
  else
   some ((false, ()), ()))
 else
  (S26 k apart1).bind fun q2 =>
  (S20 k (k_, k_1, k_2, k_3, k_4, k_5, k_6, k_7, ((k_8, k_9), k_10), k_11, k_12) place1 in_1).bind fun q3 =>
  (S23 k (k_, k_1, k_2, k_3, k_4, k_5, k_6, k_7, ((k_8, k_9), k_10), k_11, k_12)).bind fun q4 =>
  (S12 k q4.1.1).bind fun q5 =>
  (S12 k q5.1.1).bind fun q6 =>
  (S20 k q5.1.1 place1 in_1).bind fun q7 =>
  (S15 k (k_, k_1, k_2, k_3, k_4, k_5, k_6, k_7, ((k_8, k_9), k_10), k_11, k_12)).bind fun q8 =>
  (S14 k q8.1.1 q2.1.1).bind fun q9 =>
  (bif q9.1.1 then
   (bif q3.1.2.2.1 == 8 then
    (bif q4.1.1.1 == 1 then
     (bif (q4.1.2.1.length : Int) == 0 then
      (bif q5.1.2.1 == 0 then
       (bif q5.1.1.2.2.2.2.1 then
        (bif q6.1.2.1 == 7 then
         some ((q7.1.2.2.1 == 3, ()), ())
        else
         some ((false, ()), ()))
       else
        some ((false, ()), ()))
      else
       some ((false, ()), ()))
     else
      some ((false, ()), ()))
    else
     some ((false, ()), ()))
   else
    some ((false, ()), ()))
  else
   some ((false, ()), ())))
noncomputable def S4 (k : Nat) (apart : Int) (place : Int) (in_ : Int) : Option ((Bool × Unit) × Unit) :=
 (S9 k).bind fun q0 =>
 (bif !q0.1.1 then
  some ((false, ()), ())
 else
  (S25 k apart).bind fun q1 =>
  (bif decide (apart ≥ 1) then
   (bif !(q1.1.2.1 == (decide (apart ≤ 4611686018427387904))) then
    some ((false, ()), ())
   else
    j4_6 k apart place in_ q1.1.1.1 q1.1.1.2.1 q1.1.1.2.2.1 q1.1.1.2.2.2.1 q1.1.1.2.2.2.2.1 q1.1.1.2.2.2.2.2.1 q1.1.1.2.2.2.2.2.2.1 q1.1.1.2.2.2.2.2.2.2.1 q1.1.1.2.2.2.2.2.2.2.2.1.1.1 q1.1.1.2.2.2.2.2.2.2.2.1.1.2 q1.1.1.2.2.2.2.2.2.2.2.1.2 q1.1.1.2.2.2.2.2.2.2.2.2.1 q1.1.1.2.2.2.2.2.2.2.2.2.2 q1.1.2.1)
  else
   (bif !(q1.1.2.1 == false) then
    some ((false, ()), ())
   else
    j4_6 k apart place in_ q1.1.1.1 q1.1.1.2.1 q1.1.1.2.2.1 q1.1.1.2.2.2.1 q1.1.1.2.2.2.2.1 q1.1.1.2.2.2.2.2.1 q1.1.1.2.2.2.2.2.2.1 q1.1.1.2.2.2.2.2.2.2.1 q1.1.1.2.2.2.2.2.2.2.2.1.1.1 q1.1.1.2.2.2.2.2.2.2.2.1.1.2 q1.1.1.2.2.2.2.2.2.2.2.1.2 q1.1.1.2.2.2.2.2.2.2.2.2.1 q1.1.1.2.2.2.2.2.2.2.2.2.2 q1.1.2.1)))
noncomputable def E4 : Env := tab.env (lk [(9, F9), (12, F12), (14, F14), (15, F15), (20, F20), (23, F23), (25, F25), (26, F26)]) (hintL [])
theorem E4_ok : EnvOK Tryz.prog E4 := envOK_of tabOK _ _ (allFn_lk (l := [(9, F9), (12, F12), (14, F14), (15, F15), (20, F20), (23, F23), (25, F25), (26, F26)]) ⟨ok9, ok12, ok14, ok15, ok20, ok23, ok25, ok26, trivial⟩)
noncomputable def B4 (k : Nat) : Tbl (RD R4 × MD P4) := (.join 6 c4_J6 (fun d => j4_6 k d.2.1 d.2.2.1 d.2.2.2.1 d.2.2.2.2.1.1 d.2.2.2.2.1.2.1 d.2.2.2.2.1.2.2.1 d.2.2.2.2.1.2.2.2.1 d.2.2.2.2.1.2.2.2.2.1 d.2.2.2.2.1.2.2.2.2.2.1 d.2.2.2.2.1.2.2.2.2.2.2.1 d.2.2.2.2.1.2.2.2.2.2.2.2.1 d.2.2.2.2.1.2.2.2.2.2.2.2.2.1 d.2.2.2.2.1.2.2.2.2.2.2.2.2.2.1 d.2.2.2.2.1.2.2.2.2.2.2.2.2.2.2.1 d.2.2.2.2.1.2.2.2.2.2.2.2.2.2.2.2.1 d.2.2.2.2.1.2.2.2.2.2.2.2.2.2.2.2.2.1 d.2.2.2.2.2.1) .nil)
noncomputable def F4 : Fn := ⟨P4, R4, fun k x => S4 k x.1 x.2.1 x.2.2.1⟩
theorem ok4 : FnOK Tryz.prog 4 F4 := evalF_ok (E := E4) (T := B4) E4_ok mix Tryz.func4 rfl (by kernel_rfl) (by kernel_rfl) (fun k => by kernel_rfl) (fun k x => by kernel_rfl)
end Go.Proofs.YtmmagcjlfcicfaaGreat.Ab
