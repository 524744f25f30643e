import Derived.Test.YtinopkpnlibopaaAbK2
/- Contracts, printed by this session's own program gen.py. -/
set_option linter.unusedVariables false
set_option linter.unusedSimpArgs false
set_option maxRecDepth 100000
namespace Go.Proofs.Ytinopkpnlibopaa.Ab
open Go.RowKit
abbrev Y3_0 : Type := Int × Int × Int × Int
abbrev Y3_1 : Type := (Bool × Unit) × Unit
abbrev Y3_2 : Type := ((List Y3_0) × Unit) × Unit
noncomputable abbrev P20 : List PT := [.val ⟨false, (.int .i64), false⟩]
noncomputable abbrev R20 : List RT := [.val ⟨false, (.sl 60 (.pair (.int .i64) (.pair (.int .i64) (.pair (.int .i64) (.int .i64))))), true⟩]
noncomputable abbrev c20_L3 : Cut := ⟨[0, 3, 4], [.cell (.int .i64), .own 60 (.pair (.int .i64) (.pair (.int .i64) (.pair (.int .i64) (.int .i64)))), .cell (.int .i64)], [], 18⟩
noncomputable def l20_3 (k : Nat) (g3 : Int → (List Y3_0) → Int → Option Y3_2) (n1 : Int) (l_ : List Y3_0) (i : Int) : Option Y3_2 :=
 (bif decide (i < (IntKind.i64.wrap (n1 - 1))) then
  ix l_ i <|
  g3 n1 (upd l_ i (1, (rd l_ i (0, 0, 0, 0)).2)) (IntKind.i64.wrap (i + 1))
 else
  some ((l_, ()), ()))
noncomputable def b20_3 (k : Nat) (g : ((Unit) × Int × (List Y3_0) × Int × Unit) → Option Y3_2) (d : (Unit) × Int × (List Y3_0) × Int × Unit) : Option Y3_2 := l20_3 k (fun n1 l_ i => g ((), n1, l_, i, ())) d.2.1 d.2.2.1 d.2.2.2.1
noncomputable def L20_3 (k : Nat) (j : Nat) (n1 : Int) (l_ : List Y3_0) (i : Int) : Option Y3_2 := iter (R := ((List Y3_0) × Unit) × Unit) c20_L3 (b20_3 k) j ((), n1, l_, i, ())
theorem L20_3_s (k : Nat) (j : Nat) (n1 : Int) (l_ : List Y3_0) (i : Int) : L20_3 k (j + 1) n1 l_ i = l20_3 k (L20_3 k j) n1 l_ i := iter_succ _ _ _ _
noncomputable def S20 (k : Nat) (n : Int) : Option Y3_2 :=
 mk n n 32 <|
 L20_3 k k n (List.replicate n.toNat ((0, 0, 0, 0) : Int × Int × Int × Int)) 0
noncomputable def E20 : Env := tab.env (lk []) (hintL [])
theorem E20_ok : EnvOK Try.prog E20 := envOK_of tabOK _ _ (fun f F h => by cases h)
noncomputable def B20 (k : Nat) : Tbl (RD R20 × MD P20) := (.loop 3 c20_L3 (b20_3 k) (fun g => .nil) .nil)
noncomputable def F20 : Fn := ⟨P20, R20, fun k x => S20 k x.1⟩
theorem ok20 : FnOK Try.prog 20 F20 := evalF_ok (E := E20) (T := B20) E20_ok mix Try.func20 rfl (by kernel_rfl) (by kernel_rfl) (fun k => by kernel_rfl) (fun k x => by kernel_rfl)
noncomputable abbrev P7 : List PT := [.val ⟨false, (.int .u8), false⟩, .val ⟨false, (.int .u8), false⟩]
noncomputable abbrev R7 : List RT := [.val ⟨false, .bool, true⟩]
noncomputable abbrev c7_J14 : Cut := ⟨[7, 9, 10], [.cell (.int .i64), .cell (.int .i64), .cell (.int .i64)], [], 77⟩
noncomputable def j7_14 (k : Nat) (r_2 : Int) (e2 : Int) (least2 : Int) : Option Y3_1 :=
 (bif least2 == 0 then
  (bif e2 == 14 then
   some ((r_2 == 0, ()), ())
  else
   some ((false, ()), ()))
 else
  (bif e2 == 0 then
   some ((r_2 == least2, ()), ())
  else
   some ((false, ()), ())))
noncomputable abbrev c7_J12 : Cut := ⟨[1, 5, 7, 9, 10], [.cell (.int .u8), .cell (.int .i64), .cell (.int .i64), .cell (.int .i64), .cell (.int .i64)], [], 77⟩
noncomputable def j7_12 (k : Nat) (apart2 : Int) (c1 : Int) (r_1 : Int) (e1 : Int) (least1 : Int) : Option Y3_1 :=
 (bif decide (c1 > (IntKind.i64.wrap apart2)) then
  (bif least1 != 0 then
   some ((false, ()), ())
  else
   j7_14 k r_1 e1 least1)
 else
  j7_14 k r_1 e1 least1)
noncomputable abbrev c7_L8 : Cut := ⟨[1, 5, 7, 9, 10, 11], [.cell (.int .u8), .cell (.int .i64), .cell (.int .i64), .cell (.int .i64), .cell (.int .i64), .cell (.int .i64)], [], 77⟩
noncomputable def l7_8 (k : Nat) (g8 : Int → Int → Int → Int → Int → Int → Option Y3_1) (apart1 : Int) (c : Int) (r_ : Int) (e : Int) (least : Int) (x : Int) : Option Y3_1 :=
 (bif decide (x ≤ 200) then
  (bif least == 0 then
   nz (IntKind.i64.wrap (1 + (IntKind.i64.wrap apart1))) <|
   (bif (IntKind.i64.wrap (c + (IntKind.i64.wrap ((IntKind.i64.wrap (Int.tdiv (IntKind.i64.wrap (x + (IntKind.i64.wrap apart1))) (IntKind.i64.wrap (1 + (IntKind.i64.wrap apart1))))) * c)))) == x then
    g8 apart1 c r_ e x (IntKind.i64.wrap (x + 1))
   else
    g8 apart1 c r_ e least (IntKind.i64.wrap (x + 1)))
  else
   j7_12 k apart1 c r_ e least)
 else
  j7_12 k apart1 c r_ e least)
noncomputable def b7_8 (k : Nat) (g : ((Unit) × Int × Int × Int × Int × Int × Int × Unit) → Option Y3_1) (d : (Unit) × Int × Int × Int × Int × Int × Int × Unit) : Option Y3_1 := l7_8 k (fun apart1 c r_ e least x => g ((), apart1, c, r_, e, least, x, ())) d.2.1 d.2.2.1 d.2.2.2.1 d.2.2.2.2.1 d.2.2.2.2.2.1 d.2.2.2.2.2.2.1
noncomputable def L7_8 (k : Nat) (j : Nat) (apart1 : Int) (c : Int) (r_ : Int) (e : Int) (least : Int) (x : Int) : Option Y3_1 := iter (R := (Bool × Unit) × Unit) c7_L8 (b7_8 k) j ((), apart1, c, r_, e, least, x, ())
theorem L7_8_s (k : Nat) (j : Nat) (apart1 : Int) (c : Int) (r_ : Int) (e : Int) (least : Int) (x : Int) : L7_8 k (j + 1) apart1 c r_ e least x = l7_8 k (L7_8 k j) apart1 c r_ e least x := iter_succ _ _ _ _
noncomputable def S7 (k : Nat) (n : Int) (apart : Int) : Option Y3_1 :=
 (S14 k).bind fun q0 =>
 (bif !q0.1.1 then
  some ((false, ()), ())
 else
  (S20 k (IntKind.i64.wrap (1 + (IntKind.i64.wrap (Int.tmod n 20))))).bind fun q1 =>
  (S16 k ([(1, 200, 200, q1.1.1, [], [])] : List (Int × Int × Int × (List Y3_0) × (List Y3_0) × List Y3_0)) 0 (IntKind.i64.wrap (1 + (IntKind.i64.wrap apart)))).bind fun q2 =>
  L7_8 k k apart (IntKind.i64.wrap (1 + (IntKind.i64.wrap (Int.tmod n 20)))) q2.1.1 q2.1.2.2.1 0 1)
noncomputable def E7 : Env := tab.env (lk [(14, F14), (16, F16), (20, F20)]) (hintL [])
theorem E7_ok : EnvOK Try.prog E7 := envOK_of tabOK _ _ (allFn_lk (l := [(14, F14), (16, F16), (20, F20)]) ⟨ok14, ok16, ok20, trivial⟩)
noncomputable def B7 (k : Nat) : Tbl (RD R7 × MD P7) := (.loop 8 c7_L8 (b7_8 k) (fun g => .nil) (.join 14 c7_J14 (fun d => j7_14 k d.2.1 d.2.2.1 d.2.2.2.1) (.join 12 c7_J12 (fun d => j7_12 k d.2.1 d.2.2.1 d.2.2.2.1 d.2.2.2.2.1 d.2.2.2.2.2.1) .nil)))
noncomputable def F7 : Fn := ⟨P7, R7, fun k x => S7 k x.1 x.2.1⟩
theorem ok7 : FnOK Try.prog 7 F7 := evalF_ok (E := E7) (T := B7) E7_ok mix Try.func7 rfl (by kernel_rfl) (by kernel_rfl) (fun k => by kernel_rfl) (fun k x => by kernel_rfl)
end Go.Proofs.Ytinopkpnlibopaa.Ab
