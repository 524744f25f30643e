import Derived.Test.YtinopkpnlibopaaAbG4
/- Contracts, printed by this session's own program gen.py. -/
set_option linter.unusedVariables false
set_option linter.unusedSimpArgs false
set_option maxRecDepth 100000
namespace Go.Proofs.Ytinopkpnlibopaa.Ab
open Go.RowKit
abbrev Y5_0 : Type := Int × Int × Int × (List (Int × Int × Int × Int)) × (List (Int × Int × Int × Int)) × List (Int × Int × Int × Int)
abbrev Y5_1 : Ty := .pair (.int .i64) (.pair (.int .i64) (.pair (.int .i64) (.pair (.sl 60 (.pair (.int .i64) (.pair (.int .i64) (.pair (.int .i64) (.int .i64))))) (.pair (.sl 60 (.pair (.int .i64) (.pair (.int .i64) (.pair (.int .i64) (.int .i64))))) (.sl 60 (.pair (.int .i64) (.pair (.int .i64) (.pair (.int .i64) (.int .i64)))))))))
abbrev Y5_2 : Type := Int → (List Y5_0) → (List Int) → Int → Option ((Bool × Unit) × Unit)
abbrev Y5_3 : Type := (Bool × Unit) × Unit
abbrev Y5_4 : Type := (Int × Int × Int × Unit) × Unit
abbrev Y5_5 : Type := (Int × Bool × Unit) × Unit
abbrev Y5_6 : Type := (List Int) × Int × Int × (List Int) × Unit
noncomputable abbrev P19 : List PT := [.val ⟨true, (.pair (.sl 2 (.int .i64)) (.pair (.int .i64) (.pair (.int .i64) (.sl 2 (.int .i64))))), false⟩, .val ⟨false, (.int .i64), false⟩, .val ⟨false, (.int .i64), false⟩]
noncomputable abbrev R19 : List RT := [.val ⟨false, (.int .i64), true⟩, .val ⟨false, .bool, true⟩]
noncomputable abbrev c19_L9 : Cut := ⟨[2, 3, 8, 9, 10, 15], [.cell (.int .i64), .box 32 [.cell (.sl 2 (.int .i64)), .cell (.int .i64), .cell (.int .i64), .cell (.sl 2 (.int .i64))], .cell (.int .i64), .cell (.int .i64), .cell .bool, .cell (.int .i64)], [], 94⟩
noncomputable def l19_9 (k : Nat) (g9 : Int → (List Int) → Int → Int → (List Int) → Int → Int → Bool → Int → Option Y5_5) (r_2 : Int) (x5 : List Int) (x6 : Int) (x7 : Int) (x8 : List Int) (i1 : Int) (out1 : Int) (ok1 : Bool) (k_ : Int) : Option Y5_5 :=
 (bif decide (k_ < i1) then
  (bif ok1 then
   ix x8 k_ <|
   (S42 k r_2 (rd x8 k_ 0)).bind fun q4 =>
   ix x5 k_ <|
   (S43 k q4.1.1 (rd x5 k_ 0)).bind fun q5 =>
   (bif q5.1.2.1 then
    (S41 k out1 q5.1.1).bind fun q6 =>
    g9 r_2 x5 x6 x7 x8 i1 q6.1.1 q6.1.2.1 (IntKind.i64.wrap (k_ + 1))
   else
    g9 r_2 x5 x6 x7 x8 i1 out1 q5.1.2.1 (IntKind.i64.wrap (k_ + 1)))
  else
   some ((out1, ok1, ()), ()))
 else
  some ((out1, ok1, ()), ()))
noncomputable def b19_9 (k : Nat) (g : ((Unit) × Int × Y5_6 × Int × Int × Bool × Int × Unit) → Option Y5_5) (d : (Unit) × Int × Y5_6 × Int × Int × Bool × Int × Unit) : Option Y5_5 := l19_9 k (fun r_2 x5 x6 x7 x8 i1 out1 ok1 k_ => g ((), r_2, (x5, x6, x7, x8, ()), i1, out1, ok1, k_, ())) d.2.1 d.2.2.1.1 d.2.2.1.2.1 d.2.2.1.2.2.1 d.2.2.1.2.2.2.1 d.2.2.2.1 d.2.2.2.2.1 d.2.2.2.2.2.1 d.2.2.2.2.2.2.1
noncomputable def L19_9 (k : Nat) (j : Nat) (r_2 : Int) (x5 : List Int) (x6 : Int) (x7 : Int) (x8 : List Int) (i1 : Int) (out1 : Int) (ok1 : Bool) (k_ : Int) : Option Y5_5 := iter (R := (Int × Bool × Unit) × Unit) c19_L9 (b19_9 k) j ((), r_2, (x5, x6, x7, x8, ()), i1, out1, ok1, k_, ())
theorem L19_9_s (k : Nat) (j : Nat) (r_2 : Int) (x5 : List Int) (x6 : Int) (x7 : Int) (x8 : List Int) (i1 : Int) (out1 : Int) (ok1 : Bool) (k_ : Int) : L19_9 k (j + 1) r_2 x5 x6 x7 x8 i1 out1 ok1 k_ = l19_9 k (L19_9 k j) r_2 x5 x6 x7 x8 i1 out1 ok1 k_ := iter_succ _ _ _ _
noncomputable abbrev c19_J6 : Cut := ⟨[2, 3, 8, 9, 10, 13], [.cell (.int .i64), .box 32 [.cell (.sl 2 (.int .i64)), .cell (.int .i64), .cell (.int .i64), .cell (.sl 2 (.int .i64))], .cell (.int .i64), .cell (.int .i64), .cell .bool, .cell (.int .i64)], [], 94⟩
noncomputable def j19_6 (k : Nat) (r_1 : Int) (x1 : List Int) (x2 : Int) (x3 : Int) (x4 : List Int) (i : Int) (out : Int) (ok : Bool) (f : Int) : Option Y5_5 :=
 (bif ok then
  (S41 k out f).bind fun q3 =>
  L19_9 k k r_1 x1 x2 x3 x4 i q3.1.1 q3.1.2.1 0
 else
  L19_9 k k r_1 x1 x2 x3 x4 i out ok 0)
noncomputable def S19 (k : Nat) (x : (List Int) × Int × Int × List Int) (apart : Int) (r_ : Int) : Option Y5_5 :=
 ix x.1 (IntKind.i64.wrap ((x.1.length : Int) - 1)) <|
 (S41 k (rd x.1 (IntKind.i64.wrap ((x.1.length : Int) - 1)) 0) x.2.2.1).bind fun q0 =>
 (S42 k r_ apart).bind fun q1 =>
 (S43 k q1.1.1 x.2.1).bind fun q2 =>
 (bif q0.1.2.1 then
  j19_6 k r_ x.1 x.2.1 x.2.2.1 x.2.2.2 (IntKind.i64.wrap ((x.1.length : Int) - 1)) q0.1.1 q2.1.2.1 q2.1.1
 else
  j19_6 k r_ x.1 x.2.1 x.2.2.1 x.2.2.2 (IntKind.i64.wrap ((x.1.length : Int) - 1)) q0.1.1 false q2.1.1)
noncomputable def E19 : Env := tab.env (lk [(41, F41), (42, F42), (43, F43)]) (hintL [])
theorem E19_ok : EnvOK Try.prog E19 := envOK_of tabOK _ _ (allFn_lk (l := [(41, F41), (42, F42), (43, F43)]) ⟨ok41, ok42, ok43, trivial⟩)
noncomputable def B19 (k : Nat) : Tbl (RD R19 × MD P19) := (.loop 9 c19_L9 (b19_9 k) (fun g => .nil) (.join 6 c19_J6 (fun d => j19_6 k d.2.1 d.2.2.1.1 d.2.2.1.2.1 d.2.2.1.2.2.1 d.2.2.1.2.2.2.1 d.2.2.2.1 d.2.2.2.2.1 d.2.2.2.2.2.1 d.2.2.2.2.2.2.1) .nil))
noncomputable def F19 : Fn := ⟨P19, R19, fun k x => S19 k x.1 x.2.1 x.2.2.1⟩
theorem ok19 : FnOK Try.prog 19 F19 := evalF_ok (E := E19) (T := B19) E19_ok mix Try.func19 rfl (by kernel_rfl) (by kernel_rfl) (fun k => by kernel_rfl) (fun k x => by kernel_rfl)
noncomputable abbrev P17 : List PT := [.val ⟨false, (.sl 36 Y5_1), false⟩, .val ⟨false, (.int .i64), false⟩, .val ⟨false, (.int .i64), false⟩]
noncomputable abbrev R17 : List RT := [.val ⟨false, (.int .i64), true⟩, .val ⟨false, (.int .i64), true⟩, .val ⟨false, (.int .i64), true⟩]
noncomputable abbrev c17_L7 : Cut := ⟨[0, 1, 2, 9, 10, 11], [.cell (.sl 36 Y5_1), .cell (.int .i64), .cell (.int .i64), .box 32 [.own 2 (.int .i64), .cell (.int .i64), .cell (.int .i64), .own 2 (.int .i64)], .cell (.int .i64), .cell (.int .i64)], [], 66⟩
noncomputable def l17_7 (k : Nat) (g7 : (List Y5_0) → Int → Int → (List Int) → Int → Int → (List Int) → Int → Int → Option Y5_4) (l_1 : List Y5_0) (i1 : Int) (apart1 : Int) (x : List Int) (x1 : Int) (x2 : Int) (x3 : List Int) (r_ : Int) (n : Int) : Option Y5_4 :=
 (S19 k (x, x1, x2, x3) apart1 r_).bind fun q2 =>
 (bif !q2.1.2.1 then
  some ((0, 0, 13, ()), ())
 else
  ix l_1 i1 <|
  (bif decide (q2.1.1 > (rd l_1 i1 (0, 0, 0, [], [], [])).2.2.1) then
   some ((0, 0, 14, ()), ())
  else
   (bif q2.1.1 == r_ then
    some ((r_, n, 0, ()), ())
   else
    g7 l_1 i1 apart1 x x1 x2 x3 q2.1.1 (IntKind.i64.wrap (n + 1)))))
noncomputable def b17_7 (k : Nat) (g : ((Unit) × (List Y5_0) × Int × Int × Y5_6 × Int × Int × Unit) → Option Y5_4) (d : (Unit) × (List Y5_0) × Int × Int × Y5_6 × Int × Int × Unit) : Option Y5_4 := l17_7 k (fun l_1 i1 apart1 x x1 x2 x3 r_ n => g ((), l_1, i1, apart1, (x, x1, x2, x3, ()), r_, n, ())) d.2.1 d.2.2.1 d.2.2.2.1 d.2.2.2.2.1.1 d.2.2.2.2.1.2.1 d.2.2.2.2.1.2.2.1 d.2.2.2.2.1.2.2.2.1 d.2.2.2.2.2.1 d.2.2.2.2.2.2.1
noncomputable def L17_7 (k : Nat) (j : Nat) (l_1 : List Y5_0) (i1 : Int) (apart1 : Int) (x : List Int) (x1 : Int) (x2 : Int) (x3 : List Int) (r_ : Int) (n : Int) : Option Y5_4 := iter (R := (Int × Int × Int × Unit) × Unit) c17_L7 (b17_7 k) j ((), l_1, i1, apart1, (x, x1, x2, x3, ()), r_, n, ())
theorem L17_7_s (k : Nat) (j : Nat) (l_1 : List Y5_0) (i1 : Int) (apart1 : Int) (x : List Int) (x1 : Int) (x2 : Int) (x3 : List Int) (r_ : Int) (n : Int) : L17_7 k (j + 1) l_1 i1 apart1 x x1 x2 x3 r_ n = l17_7 k (L17_7 k j) l_1 i1 apart1 x x1 x2 x3 r_ n := iter_succ _ _ _ _
noncomputable def S17 (k : Nat) (l_ : List Y5_0) (i : Int) (apart : Int) : Option Y5_4 :=
 (S40 k l_).bind fun q0 =>
 (bif !q0.1.1 then
  some ((0, 0, 1, ()), ())
 else
  (bif decide (i < 0) then
   some ((0, 0, 1, ()), ())
  else
   (bif decide (i ≥ (l_.length : Int)) then
    some ((0, 0, 1, ()), ())
   else
    (bif decide (apart < 1) then
     some ((0, 0, 1, ()), ())
    else
     (S18 k l_ i).bind fun q1 =>
     ix q1.1.1.1 i <|
     L17_7 k k l_ i apart q1.1.1.1 q1.1.1.2.1 q1.1.1.2.2.1 q1.1.1.2.2.2 (IntKind.i64.wrap ((rd q1.1.1.1 i 0) + q1.1.1.2.2.1)) 1))))
noncomputable def E17 : Env := tab.env (lk [(18, F18), (19, F19), (40, F40)]) (hintL [])
theorem E17_ok : EnvOK Try.prog E17 := envOK_of tabOK _ _ (allFn_lk (l := [(18, F18), (19, F19), (40, F40)]) ⟨ok18, ok19, ok40, trivial⟩)
noncomputable def B17 (k : Nat) : Tbl (RD R17 × MD P17) := (.loop 7 c17_L7 (b17_7 k) (fun g => .nil) .nil)
noncomputable def F17 : Fn := ⟨P17, R17, fun k x => S17 k x.1 x.2.1 x.2.2.1⟩
theorem ok17 : FnOK Try.prog 17 F17 := evalF_ok (E := E17) (T := B17) E17_ok mix Try.func17 rfl (by kernel_rfl) (by kernel_rfl) (fun k => by kernel_rfl) (fun k x => by kernel_rfl)
noncomputable abbrev P3 : List PT := [.val ⟨false, (.sl 5 (.int .u8)), false⟩, .val ⟨false, (.int .i64), false⟩, .val ⟨false, (.int .i64), false⟩]
noncomputable abbrev R3 : List RT := [.val ⟨false, .bool, true⟩]
noncomputable abbrev c3_L11 : Cut := ⟨[2, 7, 8, 9, 10], [.cell (.int .i64), .own 36 Y5_1, .own 2 (.int .i64), .cell (.int .i64), .cell (.int .i64)], [], 85⟩
noncomputable def l3_11 (k : Nat) (g8 : Y5_2) (g11 : Int → (List Y5_0) → (List Int) → Int → Int → Option Y5_3) (i2 : Int) (l_1 : List Y5_0) (aparts1 : List Int) (k_1 : Int) (at_ : Int) : Option Y5_3 :=
 (bif decide (at_ ≤ (l_1.length : Int)) then
  ix aparts1 k_1 <|
  (S16 k l_1 at_ (rd aparts1 k_1 0)).bind fun q2 =>
  ix aparts1 k_1 <|
  (S17 k l_1 at_ (rd aparts1 k_1 0)).bind fun q3 =>
  (bif q2.1.1 != q3.1.1 then
   some ((false, ()), ())
  else
   (bif q2.1.2.1 != q3.1.2.1 then
    some ((false, ()), ())
   else
    (bif q2.1.2.2.1 != q3.1.2.2.1 then
     some ((false, ()), ())
    else
     g11 i2 l_1 aparts1 k_1 (IntKind.i64.wrap (at_ + 1)))))
 else
  g8 i2 l_1 aparts1 (IntKind.i64.wrap (k_1 + 1)))
noncomputable def b3_11 (k : Nat) (g8 : Y5_2) (g : ((Unit) × Int × (List Y5_0) × (List Int) × Int × Int × Unit) → Option Y5_3) (d : (Unit) × Int × (List Y5_0) × (List Int) × Int × Int × Unit) : Option Y5_3 := l3_11 k g8 (fun i2 l_1 aparts1 k_1 at_ => g ((), i2, l_1, aparts1, k_1, at_, ())) d.2.1 d.2.2.1 d.2.2.2.1 d.2.2.2.2.1 d.2.2.2.2.2.1
noncomputable def L3_11 (k : Nat) (g8 : Y5_2) (j : Nat) (i2 : Int) (l_1 : List Y5_0) (aparts1 : List Int) (k_1 : Int) (at_ : Int) : Option Y5_3 := iter (R := (Bool × Unit) × Unit) c3_L11 (b3_11 k g8) j ((), i2, l_1, aparts1, k_1, at_, ())
theorem L3_11_s (k : Nat) (g8 : Y5_2) (j : Nat) (i2 : Int) (l_1 : List Y5_0) (aparts1 : List Int) (k_1 : Int) (at_ : Int) : L3_11 k g8 (j + 1) i2 l_1 aparts1 k_1 at_ = l3_11 k g8 (L3_11 k g8 j) i2 l_1 aparts1 k_1 at_ := iter_succ _ _ _ _
noncomputable abbrev c3_L8 : Cut := ⟨[2, 7, 8, 9], [.cell (.int .i64), .own 36 Y5_1, .own 2 (.int .i64), .cell (.int .i64)], [], 85⟩
noncomputable def l3_8 (k : Nat) (g8 : Y5_2) (i1 : Int) (l_ : List Y5_0) (aparts : List Int) (k_ : Int) : Option Y5_3 :=
 (bif decide (k_ < (aparts.length : Int)) then
  L3_11 k g8 k i1 l_ aparts k_ (-1)
 else
  (S16 k l_ i1 0).bind fun q4 =>
  some ((q4.1.2.2.1 == 1, ()), ()))
noncomputable def b3_8 (k : Nat) (g : ((Unit) × Int × (List Y5_0) × (List Int) × Int × Unit) → Option Y5_3) (d : (Unit) × Int × (List Y5_0) × (List Int) × Int × Unit) : Option Y5_3 := l3_8 k (fun i1 l_ aparts k_ => g ((), i1, l_, aparts, k_, ())) d.2.1 d.2.2.1 d.2.2.2.1 d.2.2.2.2.1
noncomputable def L3_8 (k : Nat) (j : Nat) (i1 : Int) (l_ : List Y5_0) (aparts : List Int) (k_ : Int) : Option Y5_3 := iter (R := (Bool × Unit) × Unit) c3_L8 (b3_8 k) j ((), i1, l_, aparts, k_, ())
theorem L3_8_s (k : Nat) (j : Nat) (i1 : Int) (l_ : List Y5_0) (aparts : List Int) (k_ : Int) : L3_8 k (j + 1) i1 l_ aparts k_ = l3_8 k (L3_8 k j) i1 l_ aparts k_ := iter_succ _ _ _ _
noncomputable def S3 (k : Nat) (picks : List Int) (apart : Int) (i : Int) : Option Y5_3 :=
 (S14 k).bind fun q0 =>
 (bif !q0.1.1 then
  some ((false, ()), ())
 else
  (bif decide ((picks.length : Int) > 250) then
   some ((true, ()), ())
  else
   (S15 k picks 5).bind fun q1 =>
   L3_8 k k i q1.1.1 ([apart, 1, 10, 40, 1000, 4611686018427387904] : List Int) 0))
noncomputable def E3 : Env := tab.env (lk [(14, F14), (15, F15), (16, F16), (17, F17)]) (hintL [])
theorem E3_ok : EnvOK Try.prog E3 := envOK_of tabOK _ _ (allFn_lk (l := [(14, F14), (15, F15), (16, F16), (17, F17)]) ⟨ok14, ok15, ok16, ok17, trivial⟩)
noncomputable def B3 (k : Nat) : Tbl (RD R3 × MD P3) := (.loop 8 c3_L8 (b3_8 k) (fun g => (fun (g8 : Y5_2) => (.loop 11 c3_L11 (b3_11 k g8) (fun g => .nil) .nil)) (fun i1 l_ aparts k_ => g ((), i1, l_, aparts, k_, ()))) .nil)
noncomputable def F3 : Fn := ⟨P3, R3, fun k x => S3 k x.1 x.2.1 x.2.2.1⟩
theorem ok3 : FnOK Try.prog 3 F3 := evalF_ok (E := E3) (T := B3) E3_ok mix Try.func3 rfl (by kernel_rfl) (by kernel_rfl) (fun k => by kernel_rfl) (fun k x => by kernel_rfl)
end Go.Proofs.Ytinopkpnlibopaa.Ab
