import Derived.Test.YtmmagcjlfcicfaaGreatAbV8
/- Contracts, printed by this session's own program gen.py. -/
set_option linter.unusedVariables false
set_option linter.unusedSimpArgs false
set_option maxRecDepth 100000
namespace Go.Proofs.YtmmagcjlfcicfaaGreat.Ab
open Go.RowKit
abbrev Y9_0 : Type := Int × Int × (List (Int × Int × Int × (List (Int × Int × Int × Int)) × (List (Int × Int × Int × Int)) × List (Int × Int × Int × Int))) × (List (PN Int 5)) × Bool × Bool × Bool × (List (Int × Int × Int × Int × (Int × (PN Int 8) × (List (Int × Int × Int)) × Bool) × (Int × (PN Int 8) × (List (Int × Int × Int)) × Bool) × (List Int) × Bool)) × (List Int) × (List Bool) × (List (Int × (Int × Int) × (Int × Int) × ((List Int) × List Int) × (Int × List (Int × Int)) × Int)) × (List Int) × (List Bool) × (List (PN Int 6)) × Unit
abbrev Y9_1 : Ty := .pair (.int .i64) (.pair (.int .i64) (.pair (.int .i64) (.pair (.int .i64) (.pair (.pair (.int .i64) (.pair (arrT 8 (.int .i64)) (.pair (.sl 233 (.pair (.int .i64) (.pair (.int .i64) (.int .i64)))) .bool))) (.pair (.pair (.int .i64) (.pair (arrT 8 (.int .i64)) (.pair (.sl 233 (.pair (.int .i64) (.pair (.int .i64) (.int .i64)))) .bool))) (.pair (.sl 3 (.int .i64)) .bool))))))
abbrev Y9_2 : Type := Int × Int × Int × Int × (Int × (PN Int 8) × (List (Int × Int × Int)) × Bool) × (Int × (PN Int 8) × (List (Int × Int × Int)) × Bool) × (List Int) × Bool
abbrev Y9_3 : Ty := .sl 87 (.pair (.int .i64) (.pair (.int .i64) (.pair (.int .i64) (.int .i64))))
abbrev Y9_4 : Type := Int × Int × Int × (List (Int × Int × Int × Int)) × (List (Int × Int × Int × Int)) × List (Int × Int × Int × Int)
abbrev Y9_5 : Ty := .pair (.int .i64) (.int .i64)
abbrev Y9_6 : Type := Int × Int × Int × Int × (Int × (PN Int 8) × (List (Int × Int × Int)) × Bool) × (Int × (PN Int 8) × (List (Int × Int × Int)) × Bool) × (List Int) × Bool
abbrev Y9_7 : Type := Int × (Int × Int) × (Int × Int) × ((List Int) × List Int) × (Int × List (Int × Int)) × Int
abbrev Y9_8 : Ty := .pair (.int .i64) (.pair (.int .i64) (.pair (.int .i64) (.pair Y9_3 (.pair Y9_3 Y9_3))))
abbrev Y9_9 : Type := (Int × Bool × Unit) × Unit
abbrev Y9_10 : Type := Int × Int × Int
abbrev Y9_11 : Ty := .pair (.int .i64) (.pair Y9_5 (.pair Y9_5 (.pair (.pair (.sl 2 (.int .i64)) (.sl 3 (.int .i64))) (.pair (.pair (.int .u32) (.sl 297 (.pair (.int .i64) (.int .u32)))) (.int .u32)))))
abbrev Y9_12 : Ty := .pair (.int .i64) (.pair (arrT 8 (.int .i64)) (.pair (.sl 233 (.pair (.int .i64) Y9_5)) .bool))
abbrev Y9_13 : Type := Int × Int × Int × (List (Int × Int × Int × Int)) × (List (Int × Int × Int × Int)) × List (Int × Int × Int × Int)
abbrev Y9_14 : Type := (Int × Unit) × Unit
abbrev Y9_15 : Ty := .pair (.int .i64) Y9_5
noncomputable abbrev P226 : List PT := [.val ⟨false, (.int .i64), false⟩]
noncomputable abbrev R226 : List RT := [.val ⟨false, (.int .u64), true⟩]
noncomputable def S226 (k : Nat) (i : Int) : Option Y9_14 :=
 (bif decide (i < 0) then
  some ((0, ()), ())
 else
  (bif decide (i ≥ 64) then
   some ((0, ()), ())
  else
   nneg i <|
   some ((ishl .u64 1 i, ()), ())))
noncomputable def E226 : Env := tab.env (lk []) (hintL [])
theorem E226_ok : EnvOK Tryz.prog E226 := envOK_of tabOK _ _ (fun f F h => by cases h)
noncomputable def B226 (k : Nat) : Tbl (RD R226 × MD P226) := .nil
noncomputable def F226 : Fn := ⟨P226, R226, fun k x => S226 k x.1⟩
theorem ok226 : FnOK Tryz.prog 226 F226 := evalF_ok (E := E226) (T := B226) E226_ok mix Tryz.func226 rfl (by kernel_rfl) (by kernel_rfl) (fun k => by kernel_rfl) (fun k x => by kernel_rfl)
noncomputable abbrev P203 : List PT := [.val ⟨false, (.int .u64), false⟩, .val ⟨false, (.int .i64), false⟩]
noncomputable abbrev R203 : List RT := [.val ⟨false, (.int .u64), true⟩]
noncomputable def S203 (k : Nat) (r_ : Int) (i : Int) : Option Y9_14 :=
 (S226 k i).bind fun q0 =>
 some ((ior .u64 r_ q0.1.1, ()), ())
noncomputable def E203 : Env := tab.env (lk [(226, F226)]) (hintL [])
theorem E203_ok : EnvOK Tryz.prog E203 := envOK_of tabOK _ _ (allFn_lk (l := [(226, F226)]) ⟨ok226, trivial⟩)
noncomputable def B203 (k : Nat) : Tbl (RD R203 × MD P203) := .nil
noncomputable def F203 : Fn := ⟨P203, R203, fun k x => S203 k x.1 x.2.1⟩
theorem ok203 : FnOK Tryz.prog 203 F203 := evalF_ok (E := E203) (T := B203) E203_ok mix Tryz.func203 rfl (by kernel_rfl) (by kernel_rfl) (fun k => by kernel_rfl) (fun k x => by kernel_rfl)
noncomputable abbrev P204 : List PT := [.val ⟨false, (.int .u64), false⟩]
noncomputable abbrev R204 : List RT := [.val ⟨false, (.int .i64), true⟩, .val ⟨false, .bool, true⟩]
noncomputable abbrev c204_L4 : Cut := ⟨[0, 2, 4], [.cell (.int .u64), .cell (.int .i64), .cell (.int .i64)], [], 23, []⟩
noncomputable def l204_4 (k : Nat) (g4 : Int → Int → Int → Option Y9_9) (r_1 : Int) (at_ : Int) (n : Int) : Option Y9_9 :=
 (bif decide (n > 0) then
  nneg (IntKind.i64.wrap (64 - n)) <|
  (bif (ishl .u64 r_1 (IntKind.i64.wrap (64 - n))) == 0 then
   nneg n <|
   g4 (ishr .u64 r_1 n) (IntKind.i64.wrap (at_ + n)) (IntKind.i64.wrap (Int.tdiv n 2))
  else
   g4 r_1 at_ (IntKind.i64.wrap (Int.tdiv n 2)))
 else
  some ((at_, true, ()), ()))
noncomputable def b204_4 (k : Nat) (g : ((Unit) × Int × Int × Int × Unit) → Option Y9_9) (d : (Unit) × Int × Int × Int × Unit) : Option Y9_9 := l204_4 k (fun r_1 at_ n => g ((), r_1, at_, n, ())) d.2.1 d.2.2.1 d.2.2.2.1
noncomputable def L204_4 (k : Nat) (j : Nat) (r_1 : Int) (at_ : Int) (n : Int) : Option Y9_9 := iter (R := (Int × Bool × Unit) × Unit) c204_L4 (b204_4 k) j ((), r_1, at_, n, ())
theorem L204_4_s (k : Nat) (j : Nat) (r_1 : Int) (at_ : Int) (n : Int) : L204_4 k (j + 1) r_1 at_ n = l204_4 k (L204_4 k j) r_1 at_ n := iter_succ _ _ _ _
noncomputable def S204 (k : Nat) (r_ : Int) : Option Y9_9 :=
 (bif r_ == 0 then
  some ((0, false, ()), ())
 else
  L204_4 k k r_ 0 32)
noncomputable def E204 : Env := tab.env (lk []) (hintL [])
theorem E204_ok : EnvOK Tryz.prog E204 := envOK_of tabOK _ _ (fun f F h => by cases h)
noncomputable def B204 (k : Nat) : Tbl (RD R204 × MD P204) := (.loop 4 c204_L4 (b204_4 k) (fun g => .nil) .nil)
noncomputable def F204 : Fn := ⟨P204, R204, fun k x => S204 k x.1⟩
theorem ok204 : FnOK Tryz.prog 204 F204 := evalF_ok (E := E204) (T := B204) E204_ok mix Tryz.func204 rfl (by kernel_rfl) (by kernel_rfl) (fun k => by kernel_rfl) (fun k x => by kernel_rfl)
noncomputable abbrev P159 : List PT := [.val ⟨false, (.sl 261 Y9_15), false⟩]
noncomputable abbrev R159 : List RT := [.val ⟨false, (.int .i64), true⟩]
noncomputable abbrev c159_L3 : Cut := ⟨[3, 4, 13, 14, 15], [.box 261 [.cell (.int .i64), .cell (.int .i64), .cell (.int .i64)], .cell (.int .u64), .cell (.sl 261 Y9_15), .cell (.int .i64), .cell (.int .i64)], [], 42, []⟩
noncomputable def l159_3 (k : Nat) (g3 : Int → Int → Int → Int → (List Y9_10) → Int → Int → Option Y9_14) (least : Int) (least1 : Int) (least2 : Int) (r_ : Int) (t13 : List Y9_10) (t14 : Int) (t15 : Int) : Option Y9_14 :=
 (bif decide (t15 < t14) then
  ix t13 t15 <|
  (S160 k (rd t13 t15 (0, 0, 0)) (least, least1, least2)).bind fun q0 =>
  (bif decide (q0.1.1 < 0) then
   (S203 k 0 t15).bind fun q1 =>
   g3 (rd t13 t15 (0, 0, 0)).1 (rd t13 t15 (0, 0, 0)).2.1 (rd t13 t15 (0, 0, 0)).2.2 q1.1.1 t13 t14 (IntKind.i64.wrap (t15 + 1))
  else
   (bif q0.1.1 == 0 then
    (S203 k r_ t15).bind fun q2 =>
    g3 least least1 least2 q2.1.1 t13 t14 (IntKind.i64.wrap (t15 + 1))
   else
    g3 least least1 least2 r_ t13 t14 (IntKind.i64.wrap (t15 + 1))))
 else
  (S204 k r_).bind fun q3 =>
  some ((q3.1.1, ()), ()))
noncomputable def b159_3 (k : Nat) (g : ((Unit) × (Int × Int × Int × Unit) × Int × (List Y9_10) × Int × Int × Unit) → Option Y9_14) (d : (Unit) × (Int × Int × Int × Unit) × Int × (List Y9_10) × Int × Int × Unit) : Option Y9_14 := l159_3 k (fun least least1 least2 r_ t13 t14 t15 => g ((), (least, least1, least2, ()), r_, t13, t14, t15, ())) d.2.1.1 d.2.1.2.1 d.2.1.2.2.1 d.2.2.1 d.2.2.2.1 d.2.2.2.2.1 d.2.2.2.2.2.1
noncomputable def L159_3 (k : Nat) (j : Nat) (least : Int) (least1 : Int) (least2 : Int) (r_ : Int) (t13 : List Y9_10) (t14 : Int) (t15 : Int) : Option Y9_14 := iter (R := (Int × Unit) × Unit) c159_L3 (b159_3 k) j ((), (least, least1, least2, ()), r_, t13, t14, t15, ())
theorem L159_3_s (k : Nat) (j : Nat) (least : Int) (least1 : Int) (least2 : Int) (r_ : Int) (t13 : List Y9_10) (t14 : Int) (t15 : Int) : L159_3 k (j + 1) least least1 least2 r_ t13 t14 t15 = l159_3 k (L159_3 k j) least least1 least2 r_ t13 t14 t15 := iter_succ _ _ _ _
noncomputable def S159 (k : Nat) (l_ : List Y9_10) : Option Y9_14 :=
 ix l_ 0 <|
 L159_3 k k (rd l_ 0 (0, 0, 0)).1 (rd l_ 0 (0, 0, 0)).2.1 (rd l_ 0 (0, 0, 0)).2.2 0 l_ (l_.length : Int) 0
noncomputable def E159 : Env := tab.env (lk [(160, F160), (203, F203), (204, F204)]) (hintL [])
theorem E159_ok : EnvOK Tryz.prog E159 := envOK_of tabOK _ _ (allFn_lk (l := [(160, F160), (203, F203), (204, F204)]) ⟨ok160, ok203, ok204, trivial⟩)
noncomputable def B159 (k : Nat) : Tbl (RD R159 × MD P159) := (.loop 3 c159_L3 (b159_3 k) (fun g => .nil) .nil)
noncomputable def F159 : Fn := ⟨P159, R159, fun k x => S159 k x.1⟩
theorem ok159 : FnOK Tryz.prog 159 F159 := evalF_ok (E := E159) (T := B159) E159_ok mix Tryz.func159 rfl (by kernel_rfl) (by kernel_rfl) (fun k => by kernel_rfl) (fun k x => by kernel_rfl)
noncomputable abbrev P104 : List PT := [.val ⟨false, (.sl 94 Y9_1), false⟩, .val ⟨false, (.int .i64), false⟩, .val ⟨false, (.sl 114 Y9_5), false⟩]
noncomputable abbrev R104 : List RT := [.val ⟨false, (.int .i64), true⟩, .val ⟨false, .bool, true⟩]
noncomputable abbrev c104_L8 : Cut := ⟨[6, 7, 8, 11], [.cell (.int .i64), .cell .bool, .own 261 Y9_15, .cell (.int .i64)], [], 63, []⟩
noncomputable def l104_8 (k : Nat) (g8 : Int → Bool → (List Y9_10) → Int → Option Y9_9) (at_1 : Int) (ok1 : Bool) (all1 : List Y9_10) (from_ : Int) : Option Y9_9 :=
 (bif decide (from_ < (all1.length : Int)) then
  sx all1 from_ (mn (IntKind.i64.wrap (from_ + 64)) (all1.length : Int)) <|
  (S159 k (sub all1 from_ (mn (IntKind.i64.wrap (from_ + 64)) (all1.length : Int)))).bind fun q2 =>
  (bif !ok1 then
   g8 (IntKind.i64.wrap (from_ + q2.1.1)) true all1 (IntKind.i64.wrap (from_ + 64))
  else
   ix all1 (IntKind.i64.wrap (from_ + q2.1.1)) <|
   ix all1 at_1 <|
   (S160 k (rd all1 (IntKind.i64.wrap (from_ + q2.1.1)) (0, 0, 0)) (rd all1 at_1 (0, 0, 0))).bind fun q3 =>
   (bif decide (q3.1.1 < 0) then
    g8 (IntKind.i64.wrap (from_ + q2.1.1)) true all1 (IntKind.i64.wrap (from_ + 64))
   else
    g8 at_1 ok1 all1 (IntKind.i64.wrap (from_ + 64))))
 else
  some ((at_1, ok1, ()), ()))
noncomputable def b104_8 (k : Nat) (g : ((Unit) × Int × Bool × (List Y9_10) × Int × Unit) → Option Y9_9) (d : (Unit) × Int × Bool × (List Y9_10) × Int × Unit) : Option Y9_9 := l104_8 k (fun at_1 ok1 all1 from_ => g ((), at_1, ok1, all1, from_, ())) d.2.1 d.2.2.1 d.2.2.2.1 d.2.2.2.2.1
noncomputable def L104_8 (k : Nat) (j : Nat) (at_1 : Int) (ok1 : Bool) (all1 : List Y9_10) (from_ : Int) : Option Y9_9 := iter (R := (Int × Bool × Unit) × Unit) c104_L8 (b104_8 k) j ((), at_1, ok1, all1, from_, ())
theorem L104_8_s (k : Nat) (j : Nat) (at_1 : Int) (ok1 : Bool) (all1 : List Y9_10) (from_ : Int) : L104_8 k (j + 1) at_1 ok1 all1 from_ = l104_8 k (L104_8 k j) at_1 ok1 all1 from_ := iter_succ _ _ _ _
noncomputable abbrev c104_L3 : Cut := ⟨[1, 2, 6, 7, 8, 14, 15, 16], [.cell (.int .i64), .cell (.sl 114 Y9_5), .cell (.int .i64), .cell .bool, .own 261 Y9_15, .cell (.sl 94 Y9_1), .cell (.int .i64), .cell (.int .i64)], [], 63, []⟩
noncomputable def l104_3 (k : Nat) (g3 : Int → (List (Int × Int)) → Int → Bool → (List Y9_10) → (List Y9_2) → Int → Int → Option Y9_9) (n1 : Int) (s1 : List (Int × Int)) (at_ : Int) (ok : Bool) (all : List Y9_10) (t14 : List Y9_2) (t15 : Int) (t16 : Int) : Option Y9_9 :=
 (bif decide (t16 < t15) then
  ix t14 t16 <|
  (S158 k (rd t14 t16 (0, 0, 0, 0, (0, prep (α := Int) 8 0, [], false), (0, prep (α := Int) 8 0, [], false), [], false)) n1 s1).bind fun q0 =>
  ap all ([q0.1.1] : List Y9_10) 24 fun r1 =>
  g3 n1 s1 at_ ok r1 t14 t15 (IntKind.i64.wrap (t16 + 1))
 else
  L104_8 k k at_ ok all 0)
noncomputable def b104_3 (k : Nat) (g : ((Unit) × Int × (List (Int × Int)) × Int × Bool × (List Y9_10) × (List Y9_2) × Int × Int × Unit) → Option Y9_9) (d : (Unit) × Int × (List (Int × Int)) × Int × Bool × (List Y9_10) × (List Y9_2) × Int × Int × Unit) : Option Y9_9 := l104_3 k (fun n1 s1 at_ ok all t14 t15 t16 => g ((), n1, s1, at_, ok, all, t14, t15, t16, ())) d.2.1 d.2.2.1 d.2.2.2.1 d.2.2.2.2.1 d.2.2.2.2.2.1 d.2.2.2.2.2.2.1 d.2.2.2.2.2.2.2.1 d.2.2.2.2.2.2.2.2.1
noncomputable def L104_3 (k : Nat) (j : Nat) (n1 : Int) (s1 : List (Int × Int)) (at_ : Int) (ok : Bool) (all : List Y9_10) (t14 : List Y9_2) (t15 : Int) (t16 : Int) : Option Y9_9 := iter (R := (Int × Bool × Unit) × Unit) c104_L3 (b104_3 k) j ((), n1, s1, at_, ok, all, t14, t15, t16, ())
theorem L104_3_s (k : Nat) (j : Nat) (n1 : Int) (s1 : List (Int × Int)) (at_ : Int) (ok : Bool) (all : List Y9_10) (t14 : List Y9_2) (t15 : Int) (t16 : Int) : L104_3 k (j + 1) n1 s1 at_ ok all t14 t15 t16 = l104_3 k (L104_3 k j) n1 s1 at_ ok all t14 t15 t16 := iter_succ _ _ _ _
noncomputable def S104 (k : Nat) (l_ : List Y9_2) (n : Int) (s : List (Int × Int)) : Option Y9_9 :=
 L104_3 k k n s 0 false ([] : List Y9_10) l_ (l_.length : Int) 0
noncomputable def E104 : Env := tab.env (lk [(158, F158), (159, F159), (160, F160)]) (hintL [(8, 2)])
theorem E104_ok : EnvOK Tryz.prog E104 := envOK_of tabOK _ _ (allFn_lk (l := [(158, F158), (159, F159), (160, F160)]) ⟨ok158, ok159, ok160, trivial⟩)
noncomputable def B104 (k : Nat) : Tbl (RD R104 × MD P104) := (.loop 8 c104_L8 (b104_8 k) (fun g => .nil) (.loop 3 c104_L3 (b104_3 k) (fun g => .nil) .nil))
noncomputable def F104 : Fn := ⟨P104, R104, fun k x => S104 k x.1 x.2.1 x.2.2.1⟩
theorem ok104 : FnOK Tryz.prog 104 F104 := evalF_ok (E := E104) (T := B104) E104_ok mix Tryz.func104 rfl (by kernel_rfl) (by kernel_rfl) (fun k => by kernel_rfl) (fun k x => by kernel_rfl)
noncomputable abbrev P210 : List PT := [.val ⟨true, Y9_12, false⟩]
noncomputable abbrev R210 : List RT := [.val ⟨true, Y9_12, true⟩]
noncomputable def S210 (k : Nat) (m : Int × (PN Int 8) × (List Y9_10) × Bool) : Option (((Int × (PN Int 8) × (List Y9_10) × Bool) × Unit) × Unit) :=
 (S138 k m.2.2.1).bind fun q0 =>
 some (((m.1, m.2.1, q0.1.1, m.2.2.2), ()), ())
noncomputable def E210 : Env := tab.env (lk [(138, F138)]) (hintL [])
theorem E210_ok : EnvOK Tryz.prog E210 := envOK_of tabOK _ _ (allFn_lk (l := [(138, F138)]) ⟨ok138, trivial⟩)
noncomputable def B210 (k : Nat) : Tbl (RD R210 × MD P210) := .nil
noncomputable def F210 : Fn := ⟨P210, R210, fun k x => S210 k x.1⟩
theorem ok210 : FnOK Tryz.prog 210 F210 := evalF_ok (E := E210) (T := B210) E210_ok mix Tryz.func210 rfl (by kernel_rfl) (by kernel_rfl) (fun k => by kernel_rfl) (fun k x => by kernel_rfl)
noncomputable abbrev P207 : List PT := [.val ⟨true, Y9_1, false⟩]
noncomputable abbrev R207 : List RT := [.val ⟨true, Y9_1, true⟩]
noncomputable def S207 (k : Nat) (j_ : Y9_6) : Option ((Y9_2 × Unit) × Unit) :=
 (S210 k j_.2.2.2.2.1).bind fun q0 =>
 (S210 k j_.2.2.2.2.2.1).bind fun q1 =>
 (S140 k j_.2.2.2.2.2.2.1).bind fun q2 =>
 some (((j_.1, j_.2.1, j_.2.2.1, j_.2.2.2.1, q0.1.1, q1.1.1, q2.1.1, j_.2.2.2.2.2.2.2), ()), ())
noncomputable def E207 : Env := tab.env (lk [(140, F140), (210, F210)]) (hintL [])
theorem E207_ok : EnvOK Tryz.prog E207 := envOK_of tabOK _ _ (allFn_lk (l := [(140, F140), (210, F210)]) ⟨ok140, ok210, trivial⟩)
noncomputable def B207 (k : Nat) : Tbl (RD R207 × MD P207) := .nil
noncomputable def F207 : Fn := ⟨P207, R207, fun k x => S207 k x.1⟩
theorem ok207 : FnOK Tryz.prog 207 F207 := evalF_ok (E := E207) (T := B207) E207_ok mix Tryz.func207 rfl (by kernel_rfl) (by kernel_rfl) (fun k => by kernel_rfl) (fun k x => by kernel_rfl)
noncomputable abbrev P214 : List PT := [.val ⟨true, Y9_8, false⟩, .val ⟨true, Y9_1, false⟩]
noncomputable abbrev R214 : List RT := [.val ⟨true, Y9_1, true⟩]
noncomputable def S214 (k : Nat) (t : Y9_13) (j_ : Y9_6) : Option ((Y9_2 × Unit) × Unit) :=
 (S207 k j_).bind fun q0 =>
 (bif j_.2.2.2.1 == 0 then
  (bif decide ((t.2.2.2.2.1.length : Int) > 0) then
   (S99 k j_.2.2.1).bind fun q1 =>
   (S99 k j_.2.2.1).bind fun q2 =>
   some (((q0.1.1.1, q0.1.1.2.1, q0.1.1.2.2.1, 1, q1.1.1, q2.1.1, [], q0.1.1.2.2.2.2.2.2.2), ()), ())
  else
   (S210 k j_.2.2.2.2.2.1).bind fun q3 =>
   some (((q0.1.1.1, q0.1.1.2.1, q0.1.1.2.2.1, q0.1.1.2.2.2.1, q3.1.1, q0.1.1.2.2.2.2.2.1, [], q0.1.1.2.2.2.2.2.2.2), ()), ()))
 else
  (S210 k j_.2.2.2.2.2.1).bind fun q4 =>
  some (((q0.1.1.1, q0.1.1.2.1, q0.1.1.2.2.1, q0.1.1.2.2.2.1, q4.1.1, q0.1.1.2.2.2.2.2.1, [], q0.1.1.2.2.2.2.2.2.2), ()), ()))
noncomputable def E214 : Env := tab.env (lk [(99, F99), (207, F207), (210, F210)]) (hintL [])
theorem E214_ok : EnvOK Tryz.prog E214 := envOK_of tabOK _ _ (allFn_lk (l := [(99, F99), (207, F207), (210, F210)]) ⟨ok99, ok207, ok210, trivial⟩)
noncomputable def B214 (k : Nat) : Tbl (RD R214 × MD P214) := .nil
noncomputable def F214 : Fn := ⟨P214, R214, fun k x => S214 k x.1 x.2.1⟩
theorem ok214 : FnOK Tryz.prog 214 F214 := evalF_ok (E := E214) (T := B214) E214_ok mix Tryz.func214 rfl (by kernel_rfl) (by kernel_rfl) (fun k => by kernel_rfl) (fun k x => by kernel_rfl)
noncomputable abbrev P165 : List PT := [.val ⟨true, Y9_8, false⟩, .val ⟨true, Y9_1, false⟩, .val ⟨false, (.sl 114 Y9_5), false⟩]
noncomputable abbrev R165 : List RT := [.val ⟨true, Y9_1, true⟩, .val ⟨false, (.sl 114 Y9_5), true⟩, .val ⟨false, (.int .i64), true⟩]
noncomputable def S165 (k : Nat) (t : Y9_13) (j_ : Y9_6) (l_ : List (Int × Int)) : Option ((Y9_2 × (List (Int × Int)) × Int × Unit) × Unit) :=
 (S214 k t j_).bind fun q0 =>
 (S154 k l_ j_.1).bind fun q1 =>
 (bif j_.2.2.2.1 == 2 then
  (S81 k j_ (-1)).bind fun q2 =>
  some ((q2.1.1, q1.1.1, 13, ()), ())
 else
  (bif q0.1.1.2.2.2.1 != j_.2.2.2.1 then
   some ((q0.1.1, q1.1.1, 7, ()), ())
  else
   some ((q0.1.1, q1.1.1, 6, ()), ())))
noncomputable def E165 : Env := tab.env (lk [(81, F81), (154, F154), (214, F214)]) (hintL [])
theorem E165_ok : EnvOK Tryz.prog E165 := envOK_of tabOK _ _ (allFn_lk (l := [(81, F81), (154, F154), (214, F214)]) ⟨ok81, ok154, ok214, trivial⟩)
noncomputable def B165 (k : Nat) : Tbl (RD R165 × MD P165) := .nil
noncomputable def F165 : Fn := ⟨P165, R165, fun k x => S165 k x.1 x.2.1 x.2.2.1⟩
theorem ok165 : FnOK Tryz.prog 165 F165 := evalF_ok (E := E165) (T := B165) E165_ok mix Tryz.func165 rfl (by kernel_rfl) (by kernel_rfl) (fun k => by kernel_rfl) (fun k x => by kernel_rfl)
noncomputable abbrev P39b : List PT := [.mbox 150 [.cell (.int .i64), .cell (.int .i64), .own 77 Y9_8, .own 96 (arrT 5 (.int .i64)), .cell .bool, .cell .bool, .cell .bool, .own 94 Y9_1, .own 3 (.int .i64), .own 4 .bool, .own 124 Y9_11, .own 3 (.int .i64), .own 4 .bool, .own 82 (arrT 6 (.int .i64))], .val ⟨false, (.sl 114 Y9_5), false⟩]
noncomputable abbrev R39b : List RT := []
noncomputable abbrev c39b_L1 : Cut := ⟨[0, 1, 11, 12, 13], [.pin false 0, .cell (.sl 114 Y9_5), .own 3 (.int .i64), .cell (.int .i64), .cell (.int .i64)], [.mbox 150 [.cell (.int .i64), .cell (.int .i64), .own 77 Y9_8, .own 96 (arrT 5 (.int .i64)), .cell .bool, .cell .bool, .cell .bool, .own 94 Y9_1, .own 3 (.int .i64), .own 4 .bool, .own 124 Y9_11, .own 3 (.int .i64), .own 4 .bool, .own 82 (arrT 6 (.int .i64))]], 55, []⟩
noncomputable def l39b_1 (k : Nat) (g1 : Int → Int → (List Y9_4) → (List (PN Int 5)) → Bool → Bool → Bool → (List Y9_2) → (List Int) → (List Bool) → (List Y9_7) → (List Int) → (List Bool) → (List (PN Int 6)) → (List (Int × Int)) → (List Int) → Int → Int → Option ((Unit) × Y9_0 × Unit)) (k_14 : Int) (k_15 : Int) (k_16 : List Y9_4) (k_17 : List (PN Int 5)) (k_18 : Bool) (k_19 : Bool) (k_20 : Bool) (k_21 : List Y9_2) (k_22 : List Int) (k_23 : List Bool) (k_24 : List Y9_7) (k_25 : List Int) (k_26 : List Bool) (k_27 : List (PN Int 6)) (l_1 : List (Int × Int)) (t11 : List Int) (t12 : Int) (t13 : Int) : Option ((Unit) × Y9_0 × Unit) :=
 (bif decide (t13 < t12) then
  ix t11 t13 <|
  ix k_24 (rd t11 t13 0) <|
  (bif decide (t13 < (l_1.length : Int)) then
   ix l_1 t13 <|
   (bif !(beqD Y9_5 (rd k_24 (rd t11 t13 0) (0, (0, 0), (0, 0), ([], []), (0, []), 0)).2.2.1 (rd l_1 t13 (0, 0))) then
    ix l_1 t13 <|
    (S82 k ((k_22, k_23), k_24) (rd t11 t13 0) ((rd k_24 (rd t11 t13 0) (0, (0, 0), (0, 0), ([], []), (0, []), 0)).1, (rd k_24 (rd t11 t13 0) (0, (0, 0), (0, 0), ([], []), (0, []), 0)).2.1, rd l_1 t13 (0, 0), (rd k_24 (rd t11 t13 0) (0, (0, 0), (0, 0), ([], []), (0, []), 0)).2.2.2)).bind fun q1 =>
    g1 k_14 k_15 k_16 k_17 k_18 k_19 k_20 k_21 q1.1.1.1.1 q1.1.1.1.2 q1.1.1.2 k_25 k_26 k_27 l_1 t11 t12 (IntKind.i64.wrap (t13 + 1))
   else
    g1 k_14 k_15 k_16 k_17 k_18 k_19 k_20 k_21 k_22 k_23 k_24 k_25 k_26 k_27 l_1 t11 t12 (IntKind.i64.wrap (t13 + 1)))
  else
   g1 k_14 k_15 k_16 k_17 k_18 k_19 k_20 k_21 k_22 k_23 k_24 k_25 k_26 k_27 l_1 t11 t12 (IntKind.i64.wrap (t13 + 1)))
 else
  some ((), (k_14, k_15, k_16, k_17, k_18, k_19, k_20, k_21, k_22, k_23, k_24, k_25, k_26, k_27, ()), ()))
noncomputable def b39b_1 (k : Nat) (g : ((Y9_0 × Unit) × Unit × (List (Int × Int)) × (List Int) × Int × Int × Unit) → Option ((Unit) × Y9_0 × Unit)) (d : (Y9_0 × Unit) × Unit × (List (Int × Int)) × (List Int) × Int × Int × Unit) : Option ((Unit) × Y9_0 × Unit) := l39b_1 k (fun k_14 k_15 k_16 k_17 k_18 k_19 k_20 k_21 k_22 k_23 k_24 k_25 k_26 k_27 l_1 t11 t12 t13 => g (((k_14, k_15, k_16, k_17, k_18, k_19, k_20, k_21, k_22, k_23, k_24, k_25, k_26, k_27, ()), ()), (), l_1, t11, t12, t13, ())) d.1.1.1 d.1.1.2.1 d.1.1.2.2.1 d.1.1.2.2.2.1 d.1.1.2.2.2.2.1 d.1.1.2.2.2.2.2.1 d.1.1.2.2.2.2.2.2.1 d.1.1.2.2.2.2.2.2.2.1 d.1.1.2.2.2.2.2.2.2.2.1 d.1.1.2.2.2.2.2.2.2.2.2.1 d.1.1.2.2.2.2.2.2.2.2.2.2.1 d.1.1.2.2.2.2.2.2.2.2.2.2.2.1 d.1.1.2.2.2.2.2.2.2.2.2.2.2.2.1 d.1.1.2.2.2.2.2.2.2.2.2.2.2.2.2.1 d.2.2.1 d.2.2.2.1 d.2.2.2.2.1 d.2.2.2.2.2.1
noncomputable def L39b_1 (k : Nat) (j : Nat) (k_14 : Int) (k_15 : Int) (k_16 : List Y9_4) (k_17 : List (PN Int 5)) (k_18 : Bool) (k_19 : Bool) (k_20 : Bool) (k_21 : List Y9_2) (k_22 : List Int) (k_23 : List Bool) (k_24 : List Y9_7) (k_25 : List Int) (k_26 : List Bool) (k_27 : List (PN Int 6)) (l_1 : List (Int × Int)) (t11 : List Int) (t12 : Int) (t13 : Int) : Option ((Unit) × Y9_0 × Unit) := iter (R := (Unit) × Y9_0 × Unit) c39b_L1 (b39b_1 k) j (((k_14, k_15, k_16, k_17, k_18, k_19, k_20, k_21, k_22, k_23, k_24, k_25, k_26, k_27, ()), ()), (), l_1, t11, t12, t13, ())
theorem L39b_1_s (k : Nat) (j : Nat) (k_14 : Int) (k_15 : Int) (k_16 : List Y9_4) (k_17 : List (PN Int 5)) (k_18 : Bool) (k_19 : Bool) (k_20 : Bool) (k_21 : List Y9_2) (k_22 : List Int) (k_23 : List Bool) (k_24 : List Y9_7) (k_25 : List Int) (k_26 : List Bool) (k_27 : List (PN Int 6)) (l_1 : List (Int × Int)) (t11 : List Int) (t12 : Int) (t13 : Int) : L39b_1 k (j + 1) k_14 k_15 k_16 k_17 k_18 k_19 k_20 k_21 k_22 k_23 k_24 k_25 k_26 k_27 l_1 t11 t12 t13 = l39b_1 k (L39b_1 k j) k_14 k_15 k_16 k_17 k_18 k_19 k_20 k_21 k_22 k_23 k_24 k_25 k_26 k_27 l_1 t11 t12 t13 := iter_succ _ _ _ _
noncomputable def S39b (k : Nat) (k_ : Int) (k_1 : Int) (k_2 : List Y9_4) (k_3 : List (PN Int 5)) (k_4 : Bool) (k_5 : Bool) (k_6 : Bool) (k_7 : List Y9_2) (k_8 : List Int) (k_9 : List Bool) (k_10 : List Y9_7) (k_11 : List Int) (k_12 : List Bool) (k_13 : List (PN Int 6)) (l_ : List (Int × Int)) : Option ((Unit) × Y9_0 × Unit) :=
 (S73 k ((k_8, k_9), k_10)).bind fun q0 =>
 L39b_1 k k k_ k_1 k_2 k_3 k_4 k_5 k_6 k_7 k_8 k_9 k_10 k_11 k_12 k_13 l_ q0.1.1 (q0.1.1.length : Int) 0
noncomputable def E39b : Env := tab.env (lk [(73, F73), (82, F82)]) (hintL [])
theorem E39b_ok : EnvOK Tryz.prog E39b := envOK_of tabOK _ _ (allFn_lk (l := [(73, F73), (82, F82)]) ⟨ok73, ok82, trivial⟩)
noncomputable def B39b (k : Nat) : Tbl (RD R39b × MD P39b) := (.loop 1 c39b_L1 (b39b_1 k) (fun g => .nil) .nil)
noncomputable def F39b : Fn := ⟨P39b, R39b, fun k x => S39b k x.1.1 x.1.2.1 x.1.2.2.1 x.1.2.2.2.1 x.1.2.2.2.2.1 x.1.2.2.2.2.2.1 x.1.2.2.2.2.2.2.1 x.1.2.2.2.2.2.2.2.1 x.1.2.2.2.2.2.2.2.2.1 x.1.2.2.2.2.2.2.2.2.2.1 x.1.2.2.2.2.2.2.2.2.2.2.1 x.1.2.2.2.2.2.2.2.2.2.2.2.1 x.1.2.2.2.2.2.2.2.2.2.2.2.2.1 x.1.2.2.2.2.2.2.2.2.2.2.2.2.2.1 x.2.1⟩
theorem ok39b : FnOK Tryz.prog 39 F39b := evalF_ok (E := E39b) (T := B39b) E39b_ok mix Tryz.func39 rfl (by kernel_rfl) (by kernel_rfl) (fun k => by kernel_rfl) (fun k x => by kernel_rfl)
noncomputable abbrev P106 : List PT := [.mbox 150 [.cell (.int .i64), .cell (.int .i64), .own 77 Y9_8, .own 96 (arrT 5 (.int .i64)), .cell .bool, .cell .bool, .cell .bool, .own 94 Y9_1, .own 3 (.int .i64), .own 4 .bool, .own 124 Y9_11, .own 3 (.int .i64), .own 4 .bool, .own 82 (arrT 6 (.int .i64))], .mbox 94 [.cell (.int .i64), .cell (.int .i64), .cell (.int .i64), .cell (.int .i64), .cell (.int .i64), .cell (.int .i64), .cell (.int .i64), .cell (.int .i64), .cell (.int .i64), .cell (.int .i64), .cell (.int .i64), .cell (.int .i64), .cell (.int .i64), .cell (.sl 233 Y9_15), .cell .bool, .cell (.int .i64), .cell (.int .i64), .cell (.int .i64), .cell (.int .i64), .cell (.int .i64), .cell (.int .i64), .cell (.int .i64), .cell (.int .i64), .cell (.int .i64), .cell (.sl 233 Y9_15), .cell .bool, .cell (.sl 3 (.int .i64)), .cell .bool]]
noncomputable abbrev R106 : List RT := [.val ⟨false, .bool, true⟩]
noncomputable def S106 (k : Nat) (t : Int) (t1 : Int) (t2 : List Y9_4) (t3 : List (PN Int 5)) (t4 : Bool) (t5 : Bool) (t6 : Bool) (t7 : List Y9_2) (t8 : List Int) (t9 : List Bool) (t10 : List Y9_7) (t11 : List Int) (t12 : List Bool) (t13 : List (PN Int 6)) (j_ : Int) (j_1 : Int) (j_2 : Int) (j_3 : Int) (j_4 : Int) (j_5 : Int) (j_6 : Int) (j_7 : Int) (j_8 : Int) (j_9 : Int) (j_10 : Int) (j_11 : Int) (j_12 : Int) (j_13 : List Y9_10) (j_14 : Bool) (j_15 : Int) (j_16 : Int) (j_17 : Int) (j_18 : Int) (j_19 : Int) (j_20 : Int) (j_21 : Int) (j_22 : Int) (j_23 : Int) (j_24 : List Y9_10) (j_25 : Bool) (j_26 : List Int) (j_27 : Bool) : Option ((Bool × Unit) × Y9_0 × (Int × Int × Int × Int × Int × Int × Int × Int × Int × Int × Int × Int × Int × (List Y9_10) × Bool × Int × Int × Int × Int × Int × Int × Int × Int × Int × (List Y9_10) × Bool × (List Int) × Bool × Unit) × Unit) :=
 ix t2 j_ <|
 (S30 k (t, t1, t2, t3, t4, t5, t6, t7, ((t8, t9), t10), t11, t12)).bind fun q0 =>
 (S165 k (rd t2 j_ (0, 0, 0, [], [], [])) (j_, j_1, j_2, j_3, (j_4, (j_5, j_6, j_7, j_8, j_9, j_10, j_11, j_12), j_13, j_14), (j_15, (j_16, j_17, j_18, j_19, j_20, j_21, j_22, j_23), j_24, j_25), j_26, j_27) q0.1.1).bind fun q1 =>
 (S39b k t t1 t2 t3 t4 t5 t6 t7 t8 t9 t10 t11 t12 t13 q1.1.2.1).bind fun q2 =>
 (S100a k q2.2.1.1 q2.2.1.2.1 q2.2.1.2.2.1 q2.2.1.2.2.2.1 q2.2.1.2.2.2.2.1 q2.2.1.2.2.2.2.2.1 q2.2.1.2.2.2.2.2.2.1 q2.2.1.2.2.2.2.2.2.2.1 q2.2.1.2.2.2.2.2.2.2.2.1 q2.2.1.2.2.2.2.2.2.2.2.2.1 q2.2.1.2.2.2.2.2.2.2.2.2.2.1 q2.2.1.2.2.2.2.2.2.2.2.2.2.2.1 q2.2.1.2.2.2.2.2.2.2.2.2.2.2.2.1 q2.2.1.2.2.2.2.2.2.2.2.2.2.2.2.2.1 (0, q1.1.2.2.1, q1.1.1.1, 0, 0, 0)).bind fun q3 =>
 some ((q1.1.2.2.1 == 13, ()), (q3.2.1.1, q3.2.1.2.1, q3.2.1.2.2.1, q3.2.1.2.2.2.1, q3.2.1.2.2.2.2.1, q3.2.1.2.2.2.2.2.1, q3.2.1.2.2.2.2.2.2.1, q3.2.1.2.2.2.2.2.2.2.1, q3.2.1.2.2.2.2.2.2.2.2.1, q3.2.1.2.2.2.2.2.2.2.2.2.1, q3.2.1.2.2.2.2.2.2.2.2.2.2.1, q3.2.1.2.2.2.2.2.2.2.2.2.2.2.1, q3.2.1.2.2.2.2.2.2.2.2.2.2.2.2.1, q3.2.1.2.2.2.2.2.2.2.2.2.2.2.2.2.1, ()), (q1.1.1.1, q1.1.1.2.1, q1.1.1.2.2.1, q1.1.1.2.2.2.1, q1.1.1.2.2.2.2.1.1, q1.1.1.2.2.2.2.1.2.1.1, q1.1.1.2.2.2.2.1.2.1.2.1, q1.1.1.2.2.2.2.1.2.1.2.2.1, q1.1.1.2.2.2.2.1.2.1.2.2.2.1, q1.1.1.2.2.2.2.1.2.1.2.2.2.2.1, q1.1.1.2.2.2.2.1.2.1.2.2.2.2.2.1, q1.1.1.2.2.2.2.1.2.1.2.2.2.2.2.2.1, q1.1.1.2.2.2.2.1.2.1.2.2.2.2.2.2.2, q1.1.1.2.2.2.2.1.2.2.1, q1.1.1.2.2.2.2.1.2.2.2, q1.1.1.2.2.2.2.2.1.1, q1.1.1.2.2.2.2.2.1.2.1.1, q1.1.1.2.2.2.2.2.1.2.1.2.1, q1.1.1.2.2.2.2.2.1.2.1.2.2.1, q1.1.1.2.2.2.2.2.1.2.1.2.2.2.1, q1.1.1.2.2.2.2.2.1.2.1.2.2.2.2.1, q1.1.1.2.2.2.2.2.1.2.1.2.2.2.2.2.1, q1.1.1.2.2.2.2.2.1.2.1.2.2.2.2.2.2.1, q1.1.1.2.2.2.2.2.1.2.1.2.2.2.2.2.2.2, q1.1.1.2.2.2.2.2.1.2.2.1, q1.1.1.2.2.2.2.2.1.2.2.2, q1.1.1.2.2.2.2.2.2.1, q1.1.1.2.2.2.2.2.2.2, ()), ())
noncomputable def E106 : Env := tab.env (lk [(30, F30), (39, F39b), (100, F100a), (165, F165)]) (hintL [])
theorem E106_ok : EnvOK Tryz.prog E106 := envOK_of tabOK _ _ (allFn_lk (l := [(30, F30), (39, F39b), (100, F100a), (165, F165)]) ⟨ok30, ok39b, ok100a, ok165, trivial⟩)
noncomputable def B106 (k : Nat) : Tbl (RD R106 × MD P106) := .nil
noncomputable def F106 : Fn := ⟨P106, R106, fun k x => S106 k x.1.1 x.1.2.1 x.1.2.2.1 x.1.2.2.2.1 x.1.2.2.2.2.1 x.1.2.2.2.2.2.1 x.1.2.2.2.2.2.2.1 x.1.2.2.2.2.2.2.2.1 x.1.2.2.2.2.2.2.2.2.1 x.1.2.2.2.2.2.2.2.2.2.1 x.1.2.2.2.2.2.2.2.2.2.2.1 x.1.2.2.2.2.2.2.2.2.2.2.2.1 x.1.2.2.2.2.2.2.2.2.2.2.2.2.1 x.1.2.2.2.2.2.2.2.2.2.2.2.2.2.1 x.2.1.1 x.2.1.2.1 x.2.1.2.2.1 x.2.1.2.2.2.1 x.2.1.2.2.2.2.1 x.2.1.2.2.2.2.2.1 x.2.1.2.2.2.2.2.2.1 x.2.1.2.2.2.2.2.2.2.1 x.2.1.2.2.2.2.2.2.2.2.1 x.2.1.2.2.2.2.2.2.2.2.2.1 x.2.1.2.2.2.2.2.2.2.2.2.2.1 x.2.1.2.2.2.2.2.2.2.2.2.2.2.1 x.2.1.2.2.2.2.2.2.2.2.2.2.2.2.1 x.2.1.2.2.2.2.2.2.2.2.2.2.2.2.2.1 x.2.1.2.2.2.2.2.2.2.2.2.2.2.2.2.2.1 x.2.1.2.2.2.2.2.2.2.2.2.2.2.2.2.2.2.1 x.2.1.2.2.2.2.2.2.2.2.2.2.2.2.2.2.2.2.1 x.2.1.2.2.2.2.2.2.2.2.2.2.2.2.2.2.2.2.2.1 x.2.1.2.2.2.2.2.2.2.2.2.2.2.2.2.2.2.2.2.2.1 x.2.1.2.2.2.2.2.2.2.2.2.2.2.2.2.2.2.2.2.2.2.1 x.2.1.2.2.2.2.2.2.2.2.2.2.2.2.2.2.2.2.2.2.2.2.1 x.2.1.2.2.2.2.2.2.2.2.2.2.2.2.2.2.2.2.2.2.2.2.2.1 x.2.1.2.2.2.2.2.2.2.2.2.2.2.2.2.2.2.2.2.2.2.2.2.2.1 x.2.1.2.2.2.2.2.2.2.2.2.2.2.2.2.2.2.2.2.2.2.2.2.2.2.1 x.2.1.2.2.2.2.2.2.2.2.2.2.2.2.2.2.2.2.2.2.2.2.2.2.2.2.1 x.2.1.2.2.2.2.2.2.2.2.2.2.2.2.2.2.2.2.2.2.2.2.2.2.2.2.2.1 x.2.1.2.2.2.2.2.2.2.2.2.2.2.2.2.2.2.2.2.2.2.2.2.2.2.2.2.2.1 x.2.1.2.2.2.2.2.2.2.2.2.2.2.2.2.2.2.2.2.2.2.2.2.2.2.2.2.2.2.1⟩
theorem ok106 : FnOK Tryz.prog 106 F106 := evalF_ok (E := E106) (T := B106) E106_ok mix Tryz.func106 rfl (by kernel_rfl) (by kernel_rfl) (fun k => by kernel_rfl) (fun k x => by kernel_rfl)
noncomputable abbrev P209 : List PT := [.val ⟨true, Y9_8, false⟩, .val ⟨true, Y9_1, false⟩]
noncomputable abbrev R209 : List RT := [.val ⟨false, Y9_3, true⟩]
noncomputable def S209 (k : Nat) (t : Y9_13) (j_ : Y9_6) : Option (((List (Int × Int × Int × Int)) × Unit) × Unit) :=
 (S80 k (mget (.int .i64) Y9_3 j_.2.2.2.1 (updD (.int .i64) Y9_3 2 t.2.2.2.2.2 (updD (.int .i64) Y9_3 1 t.2.2.2.2.1 (updD (.int .i64) Y9_3 0 t.2.2.2.1 ([] : List (Int × List (Int × Int × Int × Int)))))) [])).bind fun q0 =>
 some ((q0.1.1, ()), ())
noncomputable def E209 : Env := tab.env (lk [(80, F80)]) (hintL [])
theorem E209_ok : EnvOK Tryz.prog E209 := envOK_of tabOK _ _ (allFn_lk (l := [(80, F80)]) ⟨ok80, trivial⟩)
noncomputable def B209 (k : Nat) : Tbl (RD R209 × MD P209) := .nil
noncomputable def F209 : Fn := ⟨P209, R209, fun k x => S209 k x.1 x.2.1⟩
theorem ok209 : FnOK Tryz.prog 209 F209 := evalF_ok (E := E209) (T := B209) E209_ok mix Tryz.func209 rfl (by kernel_rfl) (by kernel_rfl) (fun k => by kernel_rfl) (fun k x => by kernel_rfl)
noncomputable abbrev P229 : List PT := [.val ⟨true, Y9_12, false⟩]
noncomputable abbrev R229 : List RT := [.val ⟨true, Y9_12, true⟩]
noncomputable def S229 (k : Nat) (m : Int × (PN Int 8) × (List Y9_10) × Bool) : Option (((Int × (PN Int 8) × (List Y9_10) × Bool) × Unit) × Unit) :=
 (S138 k m.2.2.1).bind fun q0 =>
 some (((m.1, m.2.1, q0.1.1, m.2.2.2), ()), ())
noncomputable def E229 : Env := tab.env (lk [(138, F138)]) (hintL [])
theorem E229_ok : EnvOK Tryz.prog E229 := envOK_of tabOK _ _ (allFn_lk (l := [(138, F138)]) ⟨ok138, trivial⟩)
noncomputable def B229 (k : Nat) : Tbl (RD R229 × MD P229) := .nil
noncomputable def F229 : Fn := ⟨P229, R229, fun k x => S229 k x.1⟩
theorem ok229 : FnOK Tryz.prog 229 F229 := evalF_ok (E := E229) (T := B229) E229_ok mix Tryz.func229 rfl (by kernel_rfl) (by kernel_rfl) (fun k => by kernel_rfl) (fun k x => by kernel_rfl)
noncomputable abbrev P234 : List PT := [.val ⟨false, (.int .i64), false⟩]
noncomputable abbrev R234 : List RT := [.val ⟨false, .bool, true⟩]
noncomputable def S234 (k : Nat) (a : Int) : Option ((Bool × Unit) × Unit) :=
 (bif decide (a ≥ 0) then
  some ((decide (a < 8), ()), ())
 else
  some ((false, ()), ()))
noncomputable def E234 : Env := tab.env (lk []) (hintL [])
theorem E234_ok : EnvOK Tryz.prog E234 := envOK_of tabOK _ _ (fun f F h => by cases h)
noncomputable def B234 (k : Nat) : Tbl (RD R234 × MD P234) := .nil
noncomputable def F234 : Fn := ⟨P234, R234, fun k x => S234 k x.1⟩
theorem ok234 : FnOK Tryz.prog 234 F234 := evalF_ok (E := E234) (T := B234) E234_ok mix Tryz.func234 rfl (by kernel_rfl) (by kernel_rfl) (fun k => by kernel_rfl) (fun k x => by kernel_rfl)
noncomputable abbrev P235 : List PT := [.val ⟨false, (.int .i64), false⟩, .val ⟨false, (.int .i64), false⟩, .val ⟨false, (.int .i64), false⟩]
noncomputable abbrev R235 : List RT := [.val ⟨false, .bool, true⟩]
noncomputable def S235 (k : Nat) (v : Int) (from_ : Int) (to_ : Int) : Option ((Bool × Unit) × Unit) :=
 (bif decide (v ≥ from_) then
  some ((decide (v ≤ to_), ()), ())
 else
  some ((false, ()), ()))
noncomputable def E235 : Env := tab.env (lk []) (hintL [])
theorem E235_ok : EnvOK Tryz.prog E235 := envOK_of tabOK _ _ (fun f F h => by cases h)
noncomputable def B235 (k : Nat) : Tbl (RD R235 × MD P235) := .nil
noncomputable def F235 : Fn := ⟨P235, R235, fun k x => S235 k x.1 x.2.1 x.2.2.1⟩
theorem ok235 : FnOK Tryz.prog 235 F235 := evalF_ok (E := E235) (T := B235) E235_ok mix Tryz.func235 rfl (by kernel_rfl) (by kernel_rfl) (fun k => by kernel_rfl) (fun k x => by kernel_rfl)
noncomputable abbrev P228 : List PT := [.val ⟨true, (.pair (.int .i64) Y9_15), false⟩]
noncomputable abbrev R228 : List RT := [.val ⟨false, .bool, true⟩]
noncomputable def S228 (k : Nat) (i : Int × Int × Int × Int) : Option ((Bool × Unit) × Unit) :=
 (bif i.1 == 0 then
  (bif i.2.1 == 0 then
   (bif i.2.2.1 == 0 then
    some ((i.2.2.2 == 0, ()), ())
   else
    some ((false, ()), ()))
  else
   some ((false, ()), ()))
 else
  (bif i.1 == 11 then
   (bif i.2.1 == 0 then
    (bif i.2.2.1 == 0 then
     some ((i.2.2.2 == 0, ()), ())
    else
     some ((false, ()), ()))
   else
    some ((false, ()), ()))
  else
   (bif i.1 == 1 then
    (S234 k i.2.1).bind fun q0 =>
    (bif q0.1.1 then
     (bif i.2.2.1 == 0 then
      (S235 k i.2.2.2 (-2147483648) 2147483647).bind fun q1 =>
      some ((q1.1.1, ()), ())
     else
      some ((false, ()), ()))
    else
     some ((false, ()), ()))
   else
    (bif i.1 == 2 then
     (S234 k i.2.1).bind fun q2 =>
     (bif q2.1.1 then
      (S234 k i.2.2.1).bind fun q3 =>
      (bif q3.1.1 then
       some ((i.2.2.2 == 0, ()), ())
      else
       some ((false, ()), ()))
     else
      some ((false, ()), ()))
    else
     (bif i.1 == 3 then
      (S234 k i.2.1).bind fun q4 =>
      (bif q4.1.1 then
       (S234 k i.2.2.1).bind fun q5 =>
       (bif q5.1.1 then
        some ((i.2.2.2 == 0, ()), ())
       else
        some ((false, ()), ()))
      else
       some ((false, ()), ()))
     else
      (bif i.1 == 4 then
       (S234 k i.2.1).bind fun q6 =>
       (bif q6.1.1 then
        (S234 k i.2.2.1).bind fun q7 =>
        (bif q7.1.1 then
         some ((i.2.2.2 == 0, ()), ())
        else
         some ((false, ()), ()))
       else
        some ((false, ()), ()))
      else
       (bif i.1 == 5 then
        (S234 k i.2.1).bind fun q8 =>
        (bif q8.1.1 then
         (bif i.2.2.1 == 0 then
          (S235 k i.2.2.2 (-63) 63).bind fun q9 =>
          some ((q9.1.1, ()), ())
         else
          some ((false, ()), ()))
        else
         some ((false, ()), ()))
       else
        (bif i.1 == 6 then
         (S234 k i.2.1).bind fun q10 =>
         (bif q10.1.1 then
          (bif i.2.2.1 == 0 then
           (S235 k i.2.2.2 1 64).bind fun q11 =>
           some ((q11.1.1, ()), ())
          else
           some ((false, ()), ()))
         else
          some ((false, ()), ()))
        else
         (bif i.1 == 7 then
          (S234 k i.2.1).bind fun q12 =>
          (bif q12.1.1 then
           (bif i.2.2.1 == 0 then
            (S235 k i.2.2.2 1 24).bind fun q13 =>
            some ((q13.1.1, ()), ())
           else
            some ((false, ()), ()))
          else
           some ((false, ()), ()))
         else
          (bif i.1 == 8 then
           (bif i.2.1 == 0 then
            (S235 k i.2.2.1 1 24).bind fun q14 =>
            (bif q14.1.1 then
             (S235 k i.2.2.2 1 20).bind fun q15 =>
             some ((q15.1.1, ()), ())
            else
             some ((false, ()), ()))
           else
            some ((false, ()), ()))
          else
           (bif i.1 == 9 then
            (S235 k i.2.1 0 3).bind fun q16 =>
            (bif q16.1.1 then
             (bif i.2.2.1 == 0 then
              some ((i.2.2.2 == 0, ()), ())
             else
              some ((false, ()), ()))
            else
             some ((false, ()), ()))
           else
            (bif i.1 == 10 then
             (S235 k i.2.1 0 3).bind fun q17 =>
             (bif q17.1.1 then
              (bif i.2.2.1 == 0 then
               some ((i.2.2.2 == 0, ()), ())
              else
               some ((false, ()), ()))
             else
              some ((false, ()), ()))
            else
             some ((false, ()), ())))))))))))))
noncomputable def E228 : Env := tab.env (lk [(234, F234), (235, F235)]) (hintL [])
theorem E228_ok : EnvOK Tryz.prog E228 := envOK_of tabOK _ _ (allFn_lk (l := [(234, F234), (235, F235)]) ⟨ok234, ok235, trivial⟩)
noncomputable def B228 (k : Nat) : Tbl (RD R228 × MD P228) := .nil
noncomputable def F228 : Fn := ⟨P228, R228, fun k x => S228 k x.1⟩
theorem ok228 : FnOK Tryz.prog 228 F228 := evalF_ok (E := E228) (T := B228) E228_ok mix Tryz.func228 rfl (by kernel_rfl) (by kernel_rfl) (fun k => by kernel_rfl) (fun k x => by kernel_rfl)
noncomputable abbrev P230 : List PT := [.val ⟨false, (.int .i64), false⟩, .val ⟨false, (.int .i64), false⟩]
noncomputable abbrev R230 : List RT := [.val ⟨false, (.int .i64), true⟩]
noncomputable def S230 (k : Nat) (v : Int) (n : Int) : Option Y9_14 :=
 (bif decide (n ≤ (-64)) then
  some ((v, ()), ())
 else
  (bif decide (n ≥ 64) then
   some ((v, ()), ())
  else
   (bif decide (n < 0) then
    nneg (IntKind.i64.wrap (0 - n)) <|
    some ((ishr .i64 v (IntKind.i64.wrap (0 - n)), ()), ())
   else
    nneg n <|
    some ((IntKind.i64.wrap (ishl .u64 (IntKind.u64.wrap v) n), ()), ()))))
noncomputable def E230 : Env := tab.env (lk []) (hintL [])
theorem E230_ok : EnvOK Tryz.prog E230 := envOK_of tabOK _ _ (fun f F h => by cases h)
noncomputable def B230 (k : Nat) : Tbl (RD R230 × MD P230) := .nil
noncomputable def F230 : Fn := ⟨P230, R230, fun k x => S230 k x.1 x.2.1⟩
theorem ok230 : FnOK Tryz.prog 230 F230 := evalF_ok (E := E230) (T := B230) E230_ok mix Tryz.func230 rfl (by kernel_rfl) (by kernel_rfl) (fun k => by kernel_rfl) (fun k x => by kernel_rfl)
noncomputable abbrev P231 : List PT := [.val ⟨false, (.int .i64), false⟩, .val ⟨false, (.int .i64), false⟩]
noncomputable abbrev R231 : List RT := [.val ⟨false, (.int .i64), true⟩]
noncomputable def S231 (k : Nat) (v : Int) (n : Int) : Option Y9_14 :=
 (bif decide (n < 1) then
  some ((v, ()), ())
 else
  (bif decide (n > 64) then
   some ((v, ()), ())
  else
   nneg (IntKind.i64.wrap (64 - n)) <|
   nneg (IntKind.i64.wrap (64 - n)) <|
   some ((ishr .i64 (ishl .i64 v (IntKind.i64.wrap (64 - n))) (IntKind.i64.wrap (64 - n)), ()), ())))
noncomputable def E231 : Env := tab.env (lk []) (hintL [])
theorem E231_ok : EnvOK Tryz.prog E231 := envOK_of tabOK _ _ (fun f F h => by cases h)
noncomputable def B231 (k : Nat) : Tbl (RD R231 × MD P231) := .nil
noncomputable def F231 : Fn := ⟨P231, R231, fun k x => S231 k x.1 x.2.1⟩
theorem ok231 : FnOK Tryz.prog 231 F231 := evalF_ok (E := E231) (T := B231) E231_ok mix Tryz.func231 rfl (by kernel_rfl) (by kernel_rfl) (fun k => by kernel_rfl) (fun k x => by kernel_rfl)
end Go.Proofs.YtmmagcjlfcicfaaGreat.Ab
