import Derived.Test.YtnlfdfjkgaanjaaAbP1
/- Contracts, printed by this session's own program gen.py. -/
set_option linter.unusedVariables false
set_option linter.unusedSimpArgs false
set_option maxRecDepth 100000
namespace Go.Proofs.Ytnlfdfjkgaanjaa.Ab
open Go.RowKit Go.Proofs.YtnlfdfjkgaanjaaW.PrintWords
abbrev Y2_0 : Type := ((List (Int × Int × Int × Int)) × Unit) × ((List Int) × Int × Unit) × Unit
abbrev Y2_1 : Type := Int × Int × Int × Int
abbrev Y2_2 : Ty := .pair (.int .i64) (.pair (.int .i64) (.pair (.int .i64) (.int .i64)))
abbrev Y2_3 : Type := (List Int) → Int → Int → (List Y2_1) → Int → Option Y2_0
abbrev Y2_4 : Type := (List Int) × Int × Unit
noncomputable abbrev P34 : List PT := [.mbox 95 [.cell (.sl 5 (.int .u8)), .cell (.int .i64)], .val ⟨false, (.int .i64), false⟩, .val ⟨false, (.int .i64), false⟩]
noncomputable abbrev R34 : List RT := [.val ⟨false, (.sl 34 Y2_2), true⟩]
noncomputable abbrev c34_L3 : Cut := ⟨[0, 2, 7, 8], [.pin false 0, .cell (.int .i64), .own 34 Y2_2, .cell (.int .i64)], [.mbox 95 [.cell (.sl 5 (.int .u8)), .cell (.int .i64)]], 47⟩
noncomputable def l34_3 (k : Nat) (g3 : Y2_3) (p2 : List Int) (p3 : Int) (locks1 : Int) (l_ : List Y2_1) (i : Int) : Option Y2_0 :=
 (bif decide (i > 0) then
  (bif decide (locks1 > 0) then
   (S33 k p2 p3 4).bind fun q1 =>
   (bif q1.1.1 == 0 then
    (S33 k q1.2.1.1 q1.2.1.2.1 locks1).bind fun q2 =>
    ap l_ ([(9, q2.1.1, 0, 0)] : List Y2_1) 32 fun r3 =>
    (S35 k q2.2.1.1 q2.2.1.2.1).bind fun q4 =>
    ap r3 ([q4.1.1] : List Y2_1) 32 fun r5 =>
    ap r5 ([(10, q2.1.1, 0, 0)] : List Y2_1) 32 fun r6 =>
    g3 q4.2.1.1 q4.2.1.2.1 locks1 r6 (IntKind.i64.wrap (i - 1))
   else
    (S35 k q1.2.1.1 q1.2.1.2.1).bind fun q7 =>
    ap l_ ([q7.1.1] : List Y2_1) 32 fun r8 =>
    g3 q7.2.1.1 q7.2.1.2.1 locks1 r8 (IntKind.i64.wrap (i - 1)))
  else
   (S35 k p2 p3).bind fun q9 =>
   ap l_ ([q9.1.1] : List Y2_1) 32 fun r10 =>
   g3 q9.2.1.1 q9.2.1.2.1 locks1 r10 (IntKind.i64.wrap (i - 1)))
 else
  some ((l_, ()), (p2, p3, ()), ()))
noncomputable def b34_3 (k : Nat) (g : ((Y2_4 × Unit) × Unit × Int × (List Y2_1) × Int × Unit) → Option Y2_0) (d : (Y2_4 × Unit) × Unit × Int × (List Y2_1) × Int × Unit) : Option Y2_0 := l34_3 k (fun p2 p3 locks1 l_ i => g (((p2, p3, ()), ()), (), locks1, l_, i, ())) d.1.1.1 d.1.1.2.1 d.2.2.1 d.2.2.2.1 d.2.2.2.2.1
noncomputable def L34_3 (k : Nat) (j : Nat) (p2 : List Int) (p3 : Int) (locks1 : Int) (l_ : List Y2_1) (i : Int) : Option Y2_0 := iter (R := ((List Y2_1) × Unit) × Y2_4 × Unit) c34_L3 (b34_3 k) j (((p2, p3, ()), ()), (), locks1, l_, i, ())
theorem L34_3_s (k : Nat) (j : Nat) (p2 : List Int) (p3 : Int) (locks1 : Int) (l_ : List Y2_1) (i : Int) : L34_3 k (j + 1) p2 p3 locks1 l_ i = l34_3 k (L34_3 k j) p2 p3 locks1 l_ i := iter_succ _ _ _ _
noncomputable def S34 (k : Nat) (p : List Int) (p1 : Int) (most : Int) (locks : Int) : Option Y2_0 :=
 (S33 k p p1 most).bind fun q0 =>
 L34_3 k k q0.2.1.1 q0.2.1.2.1 locks ([] : List Y2_1) (IntKind.i64.wrap (q0.1.1 + 1))
noncomputable def E34 : Env := tab.env (lk [(33, F33), (35, F35)]) (hintL [(7, 2)])
theorem E34_ok : EnvOK Try.prog E34 := envOK_of tabOK _ _ (allFn_lk (l := [(33, F33), (35, F35)]) ⟨ok33, ok35, trivial⟩)
noncomputable def B34 (k : Nat) : Tbl (RD R34 × MD P34) := (.loop 3 c34_L3 (b34_3 k) (fun g => .nil) .nil)
noncomputable def F34 : Fn := ⟨P34, R34, fun k x => S34 k x.1.1 x.1.2.1 x.2.1 x.2.2.1⟩
theorem ok34 : FnOK Try.prog 34 F34 := evalF_ok (E := E34) (T := B34) E34_ok mix Try.func34 rfl (by kernel_rfl) (by kernel_rfl) (fun k => by kernel_rfl) (fun k x => by kernel_rfl)
noncomputable abbrev P14 : List PT := [.mbox 95 [.cell (.sl 5 (.int .u8)), .cell (.int .i64)], .val ⟨false, (.int .i64), false⟩]
noncomputable abbrev R14 : List RT := [.val ⟨false, (.sl 34 Y2_2), true⟩]
noncomputable abbrev c14_J16 : Cut := ⟨[0, 1, 5, 6, 7], [.pin false 0, .cell (.int .i64), .own 34 Y2_2, .cell (.int .i64), .own 34 Y2_2], [.mbox 95 [.cell (.sl 5 (.int .u8)), .cell (.int .i64)]], 66⟩
noncomputable def j14_16 (k : Nat) (g3 : Y2_3) (p4 : List Int) (p5 : Int) (locks2 : Int) (l_1 : List Y2_1) (i1 : Int) (x : List Y2_1) : Option Y2_0 :=
 (bif decide ((IntKind.i64.wrap ((l_1.length : Int) + (x.length : Int))) < 23) then
  ap l_1 x 32 fun r9 =>
  g3 p4 p5 locks2 r9 (IntKind.i64.wrap (i1 - 1))
 else
  g3 p4 p5 locks2 l_1 (IntKind.i64.wrap (i1 - 1)))
noncomputable abbrev c14_L3 : Cut := ⟨[0, 1, 5, 6], [.pin false 0, .cell (.int .i64), .own 34 Y2_2, .cell (.int .i64)], [.mbox 95 [.cell (.sl 5 (.int .u8)), .cell (.int .i64)]], 66⟩
noncomputable def l14_3 (k : Nat) (g3 : Y2_3) (p2 : List Int) (p3 : Int) (locks1 : Int) (l_ : List Y2_1) (i : Int) : Option Y2_0 :=
 (bif decide (i > 0) then
  (S33 k p2 p3 5).bind fun q1 =>
  (bif q1.1.1 == 0 then
   (S34 k q1.2.1.1 q1.2.1.2.1 2 locks1).bind fun q2 =>
   (S33 k q2.2.1.1 q2.2.1.2.1 3).bind fun q3 =>
   ap ([(8, 0, (q2.1.1.length : Int), IntKind.i64.wrap (1 + q3.1.1))] : List Y2_1) q2.1.1 32 fun r4 =>
   j14_16 k g3 q3.2.1.1 q3.2.1.2.1 locks1 l_ i r4
  else
   (bif q1.1.1 == 1 then
    (S34 k q1.2.1.1 q1.2.1.2.1 2 locks1).bind fun q5 =>
    (S33 k q5.2.1.1 q5.2.1.2.1 3).bind fun q6 =>
    ap ([(7, q6.1.1, 0, (q5.1.1.length : Int))] : List Y2_1) q5.1.1 32 fun r7 =>
    j14_16 k g3 q6.2.1.1 q6.2.1.2.1 locks1 l_ i r7
   else
    (bif q1.1.1 == 2 then
     j14_16 k g3 q1.2.1.1 q1.2.1.2.1 locks1 l_ i ([(11, 0, 0, 0)] : List Y2_1)
    else
     (S34 k q1.2.1.1 q1.2.1.2.1 2 locks1).bind fun q8 =>
     j14_16 k g3 q8.2.1.1 q8.2.1.2.1 locks1 l_ i q8.1.1)))
 else
  ap l_ ([(0, 0, 0, 0)] : List Y2_1) 32 fun r10 =>
  some ((r10, ()), (p2, p3, ()), ()))
noncomputable def b14_3 (k : Nat) (g : ((Y2_4 × Unit) × Unit × Int × (List Y2_1) × Int × Unit) → Option Y2_0) (d : (Y2_4 × Unit) × Unit × Int × (List Y2_1) × Int × Unit) : Option Y2_0 := l14_3 k (fun p2 p3 locks1 l_ i => g (((p2, p3, ()), ()), (), locks1, l_, i, ())) d.1.1.1 d.1.1.2.1 d.2.2.1 d.2.2.2.1 d.2.2.2.2.1
noncomputable def L14_3 (k : Nat) (j : Nat) (p2 : List Int) (p3 : Int) (locks1 : Int) (l_ : List Y2_1) (i : Int) : Option Y2_0 := iter (R := ((List Y2_1) × Unit) × Y2_4 × Unit) c14_L3 (b14_3 k) j (((p2, p3, ()), ()), (), locks1, l_, i, ())
theorem L14_3_s (k : Nat) (j : Nat) (p2 : List Int) (p3 : Int) (locks1 : Int) (l_ : List Y2_1) (i : Int) : L14_3 k (j + 1) p2 p3 locks1 l_ i = l14_3 k (L14_3 k j) p2 p3 locks1 l_ i := iter_succ _ _ _ _
noncomputable def S14 (k : Nat) (p : List Int) (p1 : Int) (locks : Int) : Option Y2_0 :=
 (S33 k p p1 4).bind fun q0 =>
 L14_3 k k q0.2.1.1 q0.2.1.2.1 locks ([] : List Y2_1) (IntKind.i64.wrap (q0.1.1 + 1))
noncomputable def E14 : Env := tab.env (lk [(33, F33), (34, F34)]) (hintL [(5, 2)])
theorem E14_ok : EnvOK Try.prog E14 := envOK_of tabOK _ _ (allFn_lk (l := [(33, F33), (34, F34)]) ⟨ok33, ok34, trivial⟩)
noncomputable def B14 (k : Nat) : Tbl (RD R14 × MD P14) := (.loop 3 c14_L3 (b14_3 k) (fun g => (fun (g3 : Y2_3) => (.join 16 c14_J16 (fun d => j14_16 k g3 d.1.1.1 d.1.1.2.1 d.2.2.1 d.2.2.2.1 d.2.2.2.2.1 d.2.2.2.2.2.1) .nil)) (fun p2 p3 locks1 l_ i => g (((p2, p3, ()), ()), (), locks1, l_, i, ()))) .nil)
noncomputable def F14 : Fn := ⟨P14, R14, fun k x => S14 k x.1.1 x.1.2.1 x.2.1⟩
theorem ok14 : FnOK Try.prog 14 F14 := evalF_ok (E := E14) (T := B14) E14_ok mix Try.func14 rfl (by kernel_rfl) (by kernel_rfl) (fun k => by kernel_rfl) (fun k x => by kernel_rfl)
noncomputable abbrev P6 : List PT := [.val ⟨false, (.sl 5 (.int .u8)), false⟩, .val ⟨false, (.int .i64), false⟩, .val ⟨false, (.int .i64), false⟩, .val ⟨false, (.int .i32), false⟩]
noncomputable abbrev R6 : List RT := [.val ⟨false, .bool, true⟩]
noncomputable def S6 (k : Nat) (picks : List Int) (a : Int) (b : Int) (n : Int) : Option ((Bool × Unit) × Unit) :=
 (S12 k).bind fun q0 =>
 (bif !q0.1.1 then
  some ((false, ()), ())
 else
  (bif decide ((picks.length : Int) > 80) then
   some ((true, ()), ())
  else
   (S13 k picks).bind fun q1 =>
   (S14 k q1.1.1.1 q1.1.1.2.1 0).bind fun q2 =>
   (bif decide ((q2.1.1.length : Int) ≥ 24) then
    some ((true, ()), ())
   else
    ap ([(1, 0, 0, IntKind.i64.wrap n)] : List Y2_1) q2.1.1 32 fun r3 =>
    (S16 k r3 a).bind fun q4 =>
    (S16 k r3 b).bind fun q5 =>
    (S16 k q2.1.1 (IntKind.i64.wrap n)).bind fun q6 =>
    (bif q4.1.2.2.1 then
     (bif q5.1.2.2.1 then
      (bif q6.1.2.2.1 then
       (bif q4.1.1 == q5.1.1 then
        some ((q4.1.1 == q6.1.1, ()), ())
       else
        some ((false, ()), ()))
      else
       some ((false, ()), ()))
     else
      some ((false, ()), ()))
    else
     some ((false, ()), ())))))
noncomputable def E6 : Env := tab.env (lk [(12, F12), (13, F13), (14, F14), (16, F16)]) (hintL [])
theorem E6_ok : EnvOK Try.prog E6 := envOK_of tabOK _ _ (allFn_lk (l := [(12, F12), (13, F13), (14, F14), (16, F16)]) ⟨ok12, ok13, ok14, ok16, trivial⟩)
noncomputable def B6 (k : Nat) : Tbl (RD R6 × MD P6) := .nil
noncomputable def F6 : Fn := ⟨P6, R6, fun k x => S6 k x.1 x.2.1 x.2.2.1 x.2.2.2.1⟩
theorem ok6 : FnOK Try.prog 6 F6 := evalF_ok (E := E6) (T := B6) E6_ok mix Try.func6 rfl (by kernel_rfl) (by kernel_rfl) (fun k => by kernel_rfl) (fun k x => by kernel_rfl)
end Go.Proofs.Ytnlfdfjkgaanjaa.Ab
