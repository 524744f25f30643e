import Derived.Test.YtnlfdfjkgaanjaaAbQ1
/- Contracts, printed by this session's own program gen.py. -/
set_option linter.unusedVariables false
set_option linter.unusedSimpArgs false
set_option maxRecDepth 100000
namespace Go.Proofs.Ytnlfdfjkgaanjaa.Ab
open Go.RowKit Go.Proofs.YtnlfdfjkgaanjaaW.PrintWords
abbrev Y2_0 : Type := Int × Int × Int × Int
abbrev Y2_1 : Type := ((List Y2_0) × Unit) × ((List Int) × Int × Unit) × Unit
abbrev Y2_2 : Ty := .pair (.int .i64) (.pair (.int .i64) (.pair (.int .i64) (.int .i64)))
abbrev Y2_3 : Type := (Bool × Unit) × Unit
abbrev Y2_4 : Type := (List Int) → Int → Int → (List Y2_0) → Int → Option Y2_1
abbrev Y2_5 : Type := (List Int) × Int × Unit
noncomputable abbrev P34 : List PT := [.mbox 95 [.cell (.sl 5 (.int .u8)), .cell (.int .i64)], .val ⟨false, (.int .i64), false⟩, .val ⟨false, (.int .i64), false⟩]
noncomputable abbrev R34 : List RT := [.val ⟨false, (.sl 34 Y2_2), true⟩]
noncomputable abbrev c34_L3 : Cut := ⟨[0, 2, 7, 8], [.pin false 0, .cell (.int .i64), .own 34 Y2_2, .cell (.int .i64)], [.mbox 95 [.cell (.sl 5 (.int .u8)), .cell (.int .i64)]], 47⟩
noncomputable def l34_3 (k : Nat) (g3 : Y2_4) (p2 : List Int) (p3 : Int) (locks1 : Int) (l_ : List Y2_0) (i : Int) : Option Y2_1 :=
 (bif decide (i > 0) then
  (bif decide (locks1 > 0) then
   (S33 k p2 p3 4).bind fun q1 =>
   (bif q1.1.1 == 0 then
    (S33 k q1.2.1.1 q1.2.1.2.1 locks1).bind fun q2 =>
    ap l_ ([(9, q2.1.1, 0, 0)] : List Y2_0) 32 fun r3 =>
    (S35 k q2.2.1.1 q2.2.1.2.1).bind fun q4 =>
    ap r3 ([q4.1.1] : List Y2_0) 32 fun r5 =>
    ap r5 ([(10, q2.1.1, 0, 0)] : List Y2_0) 32 fun r6 =>
    g3 q4.2.1.1 q4.2.1.2.1 locks1 r6 (IntKind.i64.wrap (i - 1))
   else
    (S35 k q1.2.1.1 q1.2.1.2.1).bind fun q7 =>
    ap l_ ([q7.1.1] : List Y2_0) 32 fun r8 =>
    g3 q7.2.1.1 q7.2.1.2.1 locks1 r8 (IntKind.i64.wrap (i - 1)))
  else
   (S35 k p2 p3).bind fun q9 =>
   ap l_ ([q9.1.1] : List Y2_0) 32 fun r10 =>
   g3 q9.2.1.1 q9.2.1.2.1 locks1 r10 (IntKind.i64.wrap (i - 1)))
 else
  some ((l_, ()), (p2, p3, ()), ()))
noncomputable def b34_3 (k : Nat) (g : ((Y2_5 × Unit) × Unit × Int × (List Y2_0) × Int × Unit) → Option Y2_1) (d : (Y2_5 × Unit) × Unit × Int × (List Y2_0) × Int × Unit) : Option Y2_1 := l34_3 k (fun p2 p3 locks1 l_ i => g (((p2, p3, ()), ()), (), locks1, l_, i, ())) d.1.1.1 d.1.1.2.1 d.2.2.1 d.2.2.2.1 d.2.2.2.2.1
noncomputable def L34_3 (k : Nat) (j : Nat) (p2 : List Int) (p3 : Int) (locks1 : Int) (l_ : List Y2_0) (i : Int) : Option Y2_1 := iter (R := ((List Y2_0) × Unit) × Y2_5 × Unit) c34_L3 (b34_3 k) j (((p2, p3, ()), ()), (), locks1, l_, i, ())
theorem L34_3_s (k : Nat) (j : Nat) (p2 : List Int) (p3 : Int) (locks1 : Int) (l_ : List Y2_0) (i : Int) : L34_3 k (j + 1) p2 p3 locks1 l_ i = l34_3 k (L34_3 k j) p2 p3 locks1 l_ i := iter_succ _ _ _ _
noncomputable def S34 (k : Nat) (p : List Int) (p1 : Int) (most : Int) (locks : Int) : Option Y2_1 :=
 (S33 k p p1 most).bind fun q0 =>
 L34_3 k k q0.2.1.1 q0.2.1.2.1 locks ([] : List Y2_0) (IntKind.i64.wrap (q0.1.1 + 1))
noncomputable def E34 : Env := tab.env (lk [(33, F33), (35, F35)]) (hintL [(7, 2)])
theorem E34_ok : EnvOK Try.prog E34 := envOK_of tabOK _ _ (allFn_lk (l := [(33, F33), (35, F35)]) ⟨ok33, ok35, trivial⟩)
noncomputable def B34 (k : Nat) : Tbl (RD R34 × MD P34) := (.loop 3 c34_L3 (b34_3 k) (fun g => .nil) .nil)
noncomputable def F34 : Fn := ⟨P34, R34, fun k x => S34 k x.1.1 x.1.2.1 x.2.1 x.2.2.1⟩
theorem ok34 : FnOK Try.prog 34 F34 := evalF_ok (E := E34) (T := B34) E34_ok mix Try.func34 rfl (by kernel_rfl) (by kernel_rfl) (fun k => by kernel_rfl) (fun k x => by kernel_rfl)
noncomputable abbrev P14 : List PT := [.mbox 95 [.cell (.sl 5 (.int .u8)), .cell (.int .i64)], .val ⟨false, (.int .i64), false⟩]
noncomputable abbrev R14 : List RT := [.val ⟨false, (.sl 34 Y2_2), true⟩]
noncomputable abbrev c14_J16 : Cut := ⟨[0, 1, 5, 6, 7], [.pin false 0, .cell (.int .i64), .own 34 Y2_2, .cell (.int .i64), .own 34 Y2_2], [.mbox 95 [.cell (.sl 5 (.int .u8)), .cell (.int .i64)]], 66⟩
noncomputable def j14_16 (k : Nat) (g3 : Y2_4) (p4 : List Int) (p5 : Int) (locks2 : Int) (l_1 : List Y2_0) (i1 : Int) (x : List Y2_0) : Option Y2_1 :=
 (bif decide ((IntKind.i64.wrap ((l_1.length : Int) + (x.length : Int))) < 23) then
  ap l_1 x 32 fun r9 =>
  g3 p4 p5 locks2 r9 (IntKind.i64.wrap (i1 - 1))
 else
  g3 p4 p5 locks2 l_1 (IntKind.i64.wrap (i1 - 1)))
noncomputable abbrev c14_L3 : Cut := ⟨[0, 1, 5, 6], [.pin false 0, .cell (.int .i64), .own 34 Y2_2, .cell (.int .i64)], [.mbox 95 [.cell (.sl 5 (.int .u8)), .cell (.int .i64)]], 66⟩
noncomputable def l14_3 (k : Nat) (g3 : Y2_4) (p2 : List Int) (p3 : Int) (locks1 : Int) (l_ : List Y2_0) (i : Int) : Option Y2_1 :=
 (bif decide (i > 0) then
  (S33 k p2 p3 5).bind fun q1 =>
  (bif q1.1.1 == 0 then
   (S34 k q1.2.1.1 q1.2.1.2.1 2 locks1).bind fun q2 =>
   (S33 k q2.2.1.1 q2.2.1.2.1 3).bind fun q3 =>
   ap ([(8, 0, (q2.1.1.length : Int), IntKind.i64.wrap (1 + q3.1.1))] : List Y2_0) q2.1.1 32 fun r4 =>
   j14_16 k g3 q3.2.1.1 q3.2.1.2.1 locks1 l_ i r4
  else
   (bif q1.1.1 == 1 then
    (S34 k q1.2.1.1 q1.2.1.2.1 2 locks1).bind fun q5 =>
    (S33 k q5.2.1.1 q5.2.1.2.1 3).bind fun q6 =>
    ap ([(7, q6.1.1, 0, (q5.1.1.length : Int))] : List Y2_0) q5.1.1 32 fun r7 =>
    j14_16 k g3 q6.2.1.1 q6.2.1.2.1 locks1 l_ i r7
   else
    (bif q1.1.1 == 2 then
     j14_16 k g3 q1.2.1.1 q1.2.1.2.1 locks1 l_ i ([(11, 0, 0, 0)] : List Y2_0)
    else
     (S34 k q1.2.1.1 q1.2.1.2.1 2 locks1).bind fun q8 =>
     j14_16 k g3 q8.2.1.1 q8.2.1.2.1 locks1 l_ i q8.1.1)))
 else
  ap l_ ([(0, 0, 0, 0)] : List Y2_0) 32 fun r10 =>
  some ((r10, ()), (p2, p3, ()), ()))
noncomputable def b14_3 (k : Nat) (g : ((Y2_5 × Unit) × Unit × Int × (List Y2_0) × Int × Unit) → Option Y2_1) (d : (Y2_5 × Unit) × Unit × Int × (List Y2_0) × Int × Unit) : Option Y2_1 := l14_3 k (fun p2 p3 locks1 l_ i => g (((p2, p3, ()), ()), (), locks1, l_, i, ())) d.1.1.1 d.1.1.2.1 d.2.2.1 d.2.2.2.1 d.2.2.2.2.1
noncomputable def L14_3 (k : Nat) (j : Nat) (p2 : List Int) (p3 : Int) (locks1 : Int) (l_ : List Y2_0) (i : Int) : Option Y2_1 := iter (R := ((List Y2_0) × Unit) × Y2_5 × Unit) c14_L3 (b14_3 k) j (((p2, p3, ()), ()), (), locks1, l_, i, ())
theorem L14_3_s (k : Nat) (j : Nat) (p2 : List Int) (p3 : Int) (locks1 : Int) (l_ : List Y2_0) (i : Int) : L14_3 k (j + 1) p2 p3 locks1 l_ i = l14_3 k (L14_3 k j) p2 p3 locks1 l_ i := iter_succ _ _ _ _
noncomputable def S14 (k : Nat) (p : List Int) (p1 : Int) (locks : Int) : Option Y2_1 :=
 (S33 k p p1 4).bind fun q0 =>
 L14_3 k k q0.2.1.1 q0.2.1.2.1 locks ([] : List Y2_0) (IntKind.i64.wrap (q0.1.1 + 1))
noncomputable def E14 : Env := tab.env (lk [(33, F33), (34, F34)]) (hintL [(5, 2)])
theorem E14_ok : EnvOK Try.prog E14 := envOK_of tabOK _ _ (allFn_lk (l := [(33, F33), (34, F34)]) ⟨ok33, ok34, trivial⟩)
noncomputable def B14 (k : Nat) : Tbl (RD R14 × MD P14) := (.loop 3 c14_L3 (b14_3 k) (fun g => (fun (g3 : Y2_4) => (.join 16 c14_J16 (fun d => j14_16 k g3 d.1.1.1 d.1.1.2.1 d.2.2.1 d.2.2.2.1 d.2.2.2.2.1 d.2.2.2.2.2.1) .nil)) (fun p2 p3 locks1 l_ i => g (((p2, p3, ()), ()), (), locks1, l_, i, ()))) .nil)
noncomputable def F14 : Fn := ⟨P14, R14, fun k x => S14 k x.1.1 x.1.2.1 x.2.1⟩
theorem ok14 : FnOK Try.prog 14 F14 := evalF_ok (E := E14) (T := B14) E14_ok mix Try.func14 rfl (by kernel_rfl) (by kernel_rfl) (fun k => by kernel_rfl) (fun k x => by kernel_rfl)
noncomputable abbrev P7 : List PT := [.val ⟨false, (.sl 5 (.int .u8)), false⟩, .val ⟨false, (.int .u8), false⟩, .val ⟨false, (.int .i64), false⟩]
noncomputable abbrev R7 : List RT := [.val ⟨false, .bool, true⟩]
noncomputable abbrev c7_L18 : Cut := ⟨[2, 7, 9, 11, 12, 13], [.cell (.int .i64), .cell (.int .i64), .own 34 Y2_2, .own 34 Y2_2, .own 34 Y2_2, .cell (.int .i64)], [], 118⟩
noncomputable def l7_18 (k : Nat) (g18 : Int → Int → (List Y2_0) → (List Y2_0) → (List Y2_0) → Int → Option Y2_3) (in_3 : Int) (k_2 : Int) (body2 : List Y2_0) (loop : List Y2_0) (out : List Y2_0) (i1 : Int) : Option Y2_3 :=
 (bif decide (i1 < k_2) then
  ap out body2 32 fun r6 =>
  g18 in_3 k_2 body2 loop r6 (IntKind.i64.wrap (i1 + 1))
 else
  ap out ([(0, 0, 0, 0)] : List Y2_0) 32 fun r7 =>
  (S16 k loop in_3).bind fun q8 =>
  (S16 k r7 in_3).bind fun q9 =>
  (bif q8.1.2.2.1 then
   (bif q9.1.2.2.1 then
    (bif q8.1.1 == q9.1.1 then
     some ((q8.1.2.1 == (IntKind.i64.wrap (q9.1.2.1 + 1)), ()), ())
    else
     some ((false, ()), ()))
   else
    some ((false, ()), ()))
  else
   some ((false, ()), ())))
noncomputable def b7_18 (k : Nat) (g : ((Unit) × Int × Int × (List Y2_0) × (List Y2_0) × (List Y2_0) × Int × Unit) → Option Y2_3) (d : (Unit) × Int × Int × (List Y2_0) × (List Y2_0) × (List Y2_0) × Int × Unit) : Option Y2_3 := l7_18 k (fun in_3 k_2 body2 loop out i1 => g ((), in_3, k_2, body2, loop, out, i1, ())) d.2.1 d.2.2.1 d.2.2.2.1 d.2.2.2.2.1 d.2.2.2.2.2.1 d.2.2.2.2.2.2.1
noncomputable def L7_18 (k : Nat) (j : Nat) (in_3 : Int) (k_2 : Int) (body2 : List Y2_0) (loop : List Y2_0) (out : List Y2_0) (i1 : Int) : Option Y2_3 := iter (R := (Bool × Unit) × Unit) c7_L18 (b7_18 k) j ((), in_3, k_2, body2, loop, out, i1, ())
theorem L7_18_s (k : Nat) (j : Nat) (in_3 : Int) (k_2 : Int) (body2 : List Y2_0) (loop : List Y2_0) (out : List Y2_0) (i1 : Int) : L7_18 k (j + 1) in_3 k_2 body2 loop out i1 = l7_18 k (L7_18 k j) in_3 k_2 body2 loop out i1 := iter_succ _ _ _ _
noncomputable abbrev c7_J15 : Cut := ⟨[2, 7, 9], [.cell (.int .i64), .cell (.int .i64), .own 34 Y2_2], [], 118⟩
noncomputable def j7_15 (k : Nat) (in_2 : Int) (k_1 : Int) (body1 : List Y2_0) : Option Y2_3 :=
 ap ([(8, 0, (body1.length : Int), k_1)] : List Y2_0) body1 32 fun r4 =>
 ap r4 ([(0, 0, 0, 0)] : List Y2_0) 32 fun r5 =>
 L7_18 k k in_2 k_1 body1 r5 ([] : List Y2_0) 0
noncomputable abbrev c7_L9 : Cut := ⟨[2, 7, 8, 9, 10], [.cell (.int .i64), .cell (.int .i64), .own 34 Y2_2, .own 34 Y2_2, .cell (.int .i64)], [], 118⟩
noncomputable def l7_9 (k : Nat) (g9 : Int → Int → (List Y2_0) → (List Y2_0) → Int → Option Y2_3) (in_1 : Int) (k_ : Int) (code : List Y2_0) (body : List Y2_0) (i : Int) : Option Y2_3 :=
 (bif decide (i < (code.length : Int)) then
  (bif decide ((body.length : Int) < 6) then
   ix code i <|
   (bif decide ((rd code i (0, 0, 0, 0)).1 ≥ 1) then
    ix code i <|
    (bif decide ((rd code i (0, 0, 0, 0)).1 ≤ 6) then
     ix code i <|
     ap body ([rd code i (0, 0, 0, 0)] : List Y2_0) 32 fun r3 =>
     g9 in_1 k_ code r3 (IntKind.i64.wrap (i + 1))
    else
     g9 in_1 k_ code body (IntKind.i64.wrap (i + 1)))
   else
    g9 in_1 k_ code body (IntKind.i64.wrap (i + 1)))
  else
   (bif (body.length : Int) == 0 then
    some ((true, ()), ())
   else
    j7_15 k in_1 k_ body))
 else
  (bif (body.length : Int) == 0 then
   some ((true, ()), ())
  else
   j7_15 k in_1 k_ body))
noncomputable def b7_9 (k : Nat) (g : ((Unit) × Int × Int × (List Y2_0) × (List Y2_0) × Int × Unit) → Option Y2_3) (d : (Unit) × Int × Int × (List Y2_0) × (List Y2_0) × Int × Unit) : Option Y2_3 := l7_9 k (fun in_1 k_ code body i => g ((), in_1, k_, code, body, i, ())) d.2.1 d.2.2.1 d.2.2.2.1 d.2.2.2.2.1 d.2.2.2.2.2.1
noncomputable def L7_9 (k : Nat) (j : Nat) (in_1 : Int) (k_ : Int) (code : List Y2_0) (body : List Y2_0) (i : Int) : Option Y2_3 := iter (R := (Bool × Unit) × Unit) c7_L9 (b7_9 k) j ((), in_1, k_, code, body, i, ())
theorem L7_9_s (k : Nat) (j : Nat) (in_1 : Int) (k_ : Int) (code : List Y2_0) (body : List Y2_0) (i : Int) : L7_9 k (j + 1) in_1 k_ code body i = l7_9 k (L7_9 k j) in_1 k_ code body i := iter_succ _ _ _ _
noncomputable def S7 (k : Nat) (picks : List Int) (n : Int) (in_ : Int) : Option Y2_3 :=
 (S12 k).bind fun q0 =>
 (bif !q0.1.1 then
  some ((false, ()), ())
 else
  (bif decide ((picks.length : Int) > 80) then
   some ((true, ()), ())
  else
   (S13 k picks).bind fun q1 =>
   (S14 k q1.1.1.1 q1.1.1.2.1 0).bind fun q2 =>
   L7_9 k k in_ (IntKind.i64.wrap (1 + (IntKind.i64.wrap (Int.tmod n 3)))) q2.1.1 ([] : List Y2_0) 0))
noncomputable def E7 : Env := tab.env (lk [(12, F12), (13, F13), (14, F14), (16, F16)]) (hintL [(9, 2), (12, 2)])
theorem E7_ok : EnvOK Try.prog E7 := envOK_of tabOK _ _ (allFn_lk (l := [(12, F12), (13, F13), (14, F14), (16, F16)]) ⟨ok12, ok13, ok14, ok16, trivial⟩)
noncomputable def B7 (k : Nat) : Tbl (RD R7 × MD P7) := (.loop 18 c7_L18 (b7_18 k) (fun g => .nil) (.join 15 c7_J15 (fun d => j7_15 k d.2.1 d.2.2.1 d.2.2.2.1) (.loop 9 c7_L9 (b7_9 k) (fun g => .nil) .nil)))
noncomputable def F7 : Fn := ⟨P7, R7, fun k x => S7 k x.1 x.2.1 x.2.2.1⟩
theorem ok7 : FnOK Try.prog 7 F7 := evalF_ok (E := E7) (T := B7) E7_ok mix Try.func7 rfl (by kernel_rfl) (by kernel_rfl) (fun k => by kernel_rfl) (fun k x => by kernel_rfl)
end Go.Proofs.Ytnlfdfjkgaanjaa.Ab
