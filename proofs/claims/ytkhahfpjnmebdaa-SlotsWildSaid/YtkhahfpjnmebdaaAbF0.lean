import Derived.Test.YtkhahfpjnmebdaaAbLib
/- Contracts, printed by this session's own program gen.py. -/
set_option linter.unusedVariables false
set_option linter.unusedSimpArgs false
set_option maxRecDepth 100000
namespace Go.Proofs.Ytkhahfpjnmebdaa.Ab
open Go.RowKit Go.Proofs.YtkhahfpjnmebdaaW.PrintWords
/-! ### 8: 8 foliot/slots.New -/
noncomputable abbrev P8 : List PT := [.val ⟨false, (.int .i64), false⟩]
noncomputable abbrev R8 : List RT := [.val ⟨true, (.pair (.sl 3 (.int .i64)) (.sl 4 .bool)), true⟩]
noncomputable def S8 (k : Nat) (n : Int) : Option ((((List Int) × List Bool) × Unit) × Unit) :=
  mk (mn (mx n 0) 64) (mn (mx n 0) 64) 8 <|
  mk (mn (mx n 0) 64) (mn (mx n 0) 64) 1 <|
  some (((List.replicate (mn (mx n 0) 64).toNat (0 : Int), List.replicate (mn (mx n 0) 64).toNat (false : Bool)), ()), ())
noncomputable def E8 : Env := tab.env (lk []) (hintL [])
theorem E8_ok : EnvOK Try.prog E8 := envOK_of tabOK _ _ (fun f F h => by cases h)
noncomputable def B8 (k : Nat) : Tbl (RD R8 × MD P8) := .nil
noncomputable def F8 : Fn := ⟨P8, R8, fun k x => S8 k x.1⟩
theorem ok8 : FnOK Try.prog 8 F8 := evalF_ok (E := E8) (T := B8) E8_ok mix Try.func8 rfl (by kernel_rfl) (by kernel_rfl) (fun k => by kernel_rfl) (fun k x => by kernel_rfl)
/-! ### 24: 24 slices.Clone[[]int,int] -/
noncomputable abbrev P24 : List PT := clonePs 3 (.int .i64)
noncomputable abbrev R24 : List RT := cloneRs 3 (.int .i64)
noncomputable def S24 (k : Nat) (xs : List Int) : Option (((List Int) × Unit) × Unit) := cloneSem 8 3 (.int .i64) k (xs, ())
noncomputable def F24 : Fn := ⟨P24, R24, cloneSem 8 3 (.int .i64)⟩
noncomputable def E24 : Env := tab.env (fun _ => none) (fun _ => 0)
theorem E24_ok : EnvOK Try.prog E24 := envOK_of tabOK _ _ (fun f F h => by cases h)
theorem ok24 : FnOK Try.prog 24 F24 := clone_ok E24_ok mix Try.func24 rfl (by kernel_rfl) (by kernel_rfl) (fun k => by kernel_rfl) (fun k xs => by kernel_rfl) (fun k xs => by kernel_rfl)
/-! ### 25: 25 slices.Clone[[]bool,bool] -/
noncomputable abbrev P25 : List PT := clonePs 4 .bool
noncomputable abbrev R25 : List RT := cloneRs 4 .bool
noncomputable def S25 (k : Nat) (xs : List Bool) : Option (((List Bool) × Unit) × Unit) := cloneSem 1 4 .bool k (xs, ())
noncomputable def F25 : Fn := ⟨P25, R25, cloneSem 1 4 .bool⟩
noncomputable def E25 : Env := tab.env (fun _ => none) (fun _ => 0)
theorem E25_ok : EnvOK Try.prog E25 := envOK_of tabOK _ _ (fun f F h => by cases h)
theorem ok25 : FnOK Try.prog 25 F25 := clone_ok E25_ok mix Try.func25 rfl (by kernel_rfl) (by kernel_rfl) (fun k => by kernel_rfl) (fun k xs => by kernel_rfl) (fun k xs => by kernel_rfl)
/-! ### 18: 18 foliot/slots.twin -/
noncomputable abbrev P18 : List PT := [.val ⟨true, (.pair (.sl 3 (.int .i64)) (.sl 4 .bool)), false⟩]
noncomputable abbrev R18 : List RT := [.val ⟨true, (.pair (.sl 3 (.int .i64)) (.sl 4 .bool)), true⟩]
noncomputable def S18 (k : Nat) (s : (List Int) × List Bool) : Option ((((List Int) × List Bool) × Unit) × Unit) :=
  (S24 k s.1).bind fun q0 =>
  (S25 k s.2).bind fun q1 =>
  some (((q0.1.1, q1.1.1), ()), ())
noncomputable def E18 : Env := tab.env (lk [(24, F24), (25, F25)]) (hintL [])
theorem E18_ok : EnvOK Try.prog E18 := envOK_of tabOK _ _ (allFn_lk (l := [(24, F24), (25, F25)]) ⟨ok24, ok25, trivial⟩)
noncomputable def B18 (k : Nat) : Tbl (RD R18 × MD P18) := .nil
noncomputable def F18 : Fn := ⟨P18, R18, fun k x => S18 k x.1⟩
theorem ok18 : FnOK Try.prog 18 F18 := evalF_ok (E := E18) (T := B18) E18_ok mix Try.func18 rfl (by kernel_rfl) (by kernel_rfl) (fun k => by kernel_rfl) (fun k x => by kernel_rfl)
/-! ### 20: 20 foliot/slots.places -/
noncomputable abbrev P20 : List PT := [.val ⟨true, (.pair (.sl 3 (.int .i64)) (.sl 4 .bool)), false⟩]
noncomputable abbrev R20 : List RT := [.val ⟨false, (.int .i64), true⟩]
noncomputable def S20 (k : Nat) (s : (List Int) × List Bool) : Option ((Int × Unit) × Unit) :=
  some ((mn (s.1.length : Int) (s.2.length : Int), ()), ())
noncomputable def E20 : Env := tab.env (lk []) (hintL [])
theorem E20_ok : EnvOK Try.prog E20 := envOK_of tabOK _ _ (fun f F h => by cases h)
noncomputable def B20 (k : Nat) : Tbl (RD R20 × MD P20) := .nil
noncomputable def F20 : Fn := ⟨P20, R20, fun k x => S20 k x.1⟩
theorem ok20 : FnOK Try.prog 20 F20 := evalF_ok (E := E20) (T := B20) E20_ok mix Try.func20 rfl (by kernel_rfl) (by kernel_rfl) (fun k => by kernel_rfl) (fun k x => by kernel_rfl)
/-! ### 19: 19 slices.Index[[]bool,bool] -/
noncomputable abbrev P19 : List PT := [.val ⟨false, (.sl 4 .bool), false⟩, .val ⟨false, .bool, false⟩]
noncomputable abbrev R19 : List RT := [.val ⟨false, (.int .i64), true⟩]
noncomputable abbrev c19_L2 : Cut := ⟨[0, 1, 7, 8], [.cell (.sl 4 .bool), .cell .bool, .cell (.int .i64), .cell (.int .i64)], [], 19⟩
noncomputable def l19_2 (k : Nat) (g2 : (List Bool) → Bool → Int → Int → Option ((Int × Unit) × Unit)) (s1 : List Bool) (v1 : Bool) (t7 : Int) (t8 : Int) : Option ((Int × Unit) × Unit) :=
  (bif decide (t8 < t7) then
    ix s1 t8 <|
    (bif v1 == (rd s1 t8 false) then
      some ((t8, ()), ())
    else
      g2 s1 v1 t7 (IntKind.i64.wrap (t8 + 1)))
  else
    some (((-1), ()), ()))
noncomputable def b19_2 (k : Nat) (g : ((Unit) × (List Bool) × Bool × Int × Int × Unit) → Option ((Int × Unit) × Unit)) (d : (Unit) × (List Bool) × Bool × Int × Int × Unit) : Option ((Int × Unit) × Unit) := l19_2 k (fun s1 v1 t7 t8 => g ((), s1, v1, t7, t8, ())) d.2.1 d.2.2.1 d.2.2.2.1 d.2.2.2.2.1
noncomputable def L19_2 (k : Nat) (j : Nat) (s1 : List Bool) (v1 : Bool) (t7 : Int) (t8 : Int) : Option ((Int × Unit) × Unit) := iter (R := (Int × Unit) × Unit) c19_L2 (b19_2 k) j ((), s1, v1, t7, t8, ())
theorem L19_2_s (k : Nat) (j : Nat) (s1 : List Bool) (v1 : Bool) (t7 : Int) (t8 : Int) : L19_2 k (j + 1) s1 v1 t7 t8 = l19_2 k (L19_2 k j) s1 v1 t7 t8 := iter_succ _ _ _ _
noncomputable def S19 (k : Nat) (s : List Bool) (v : Bool) : Option ((Int × Unit) × Unit) :=
  L19_2 k k s v (s.length : Int) 0
noncomputable def E19 : Env := tab.env (lk []) (hintL [])
theorem E19_ok : EnvOK Try.prog E19 := envOK_of tabOK _ _ (fun f F h => by cases h)
noncomputable def B19 (k : Nat) : Tbl (RD R19 × MD P19) := (.loop 2 c19_L2 (b19_2 k) (fun g => .nil) .nil)
noncomputable def F19 : Fn := ⟨P19, R19, fun k x => S19 k x.1 x.2.1⟩
theorem ok19 : FnOK Try.prog 19 F19 := evalF_ok (E := E19) (T := B19) E19_ok mix Try.func19 rfl (by kernel_rfl) (by kernel_rfl) (fun k => by kernel_rfl) (fun k x => by kernel_rfl)
/-! ### 10: 10 foliot/slots.Take -/
noncomputable abbrev P10 : List PT := [.val ⟨true, (.pair (.sl 3 (.int .i64)) (.sl 4 .bool)), false⟩]
noncomputable abbrev R10 : List RT := [.val ⟨true, (.pair (.sl 3 (.int .i64)) (.sl 4 .bool)), true⟩, .val ⟨true, (.pair (.int .i64) (.int .i64)), true⟩, .val ⟨false, .bool, true⟩]
noncomputable def S10 (k : Nat) (s : (List Int) × List Bool) : Option ((((List Int) × List Bool) × (Int × Int) × Bool × Unit) × Unit) :=
  (S18 k s).bind fun q0 =>
  (S20 k q0.1.1).bind fun q1 =>
  sx q0.1.1.2 0 q1.1.1 <|
  (S19 k (sub q0.1.1.2 0 q1.1.1) false).bind fun q2 =>
  (bif decide (q2.1.1 < 0) then
    some ((q0.1.1, (0, 0), false, ()), ())
  else
    ix q0.1.1.1 q2.1.1 <|
    ix q0.1.1.1 q2.1.1 <|
    ix q0.1.1.2 q2.1.1 <|
    ix (upd q0.1.1.1 q2.1.1 (IntKind.i64.wrap ((rd q0.1.1.1 q2.1.1 0) + 1))) q2.1.1 <|
    some (((upd q0.1.1.1 q2.1.1 (IntKind.i64.wrap ((rd q0.1.1.1 q2.1.1 0) + 1)), upd q0.1.1.2 q2.1.1 true), (q2.1.1, rd (upd q0.1.1.1 q2.1.1 (IntKind.i64.wrap ((rd q0.1.1.1 q2.1.1 0) + 1))) q2.1.1 0), true, ()), ()))
noncomputable def E10 : Env := tab.env (lk [(18, F18), (19, F19), (20, F20)]) (hintL [])
theorem E10_ok : EnvOK Try.prog E10 := envOK_of tabOK _ _ (allFn_lk (l := [(18, F18), (19, F19), (20, F20)]) ⟨ok18, ok19, ok20, trivial⟩)
noncomputable def B10 (k : Nat) : Tbl (RD R10 × MD P10) := .nil
noncomputable def F10 : Fn := ⟨P10, R10, fun k x => S10 k x.1⟩
theorem ok10 : FnOK Try.prog 10 F10 := evalF_ok (E := E10) (T := B10) E10_ok mix Try.func10 rfl (by kernel_rfl) (by kernel_rfl) (fun k => by kernel_rfl) (fun k x => by kernel_rfl)
/-! ### 23: 23 foliot/slots.handles -/
noncomputable abbrev P23 : List PT := [.val ⟨true, (.pair (.sl 3 (.int .i64)) (.sl 4 .bool)), false⟩]
noncomputable abbrev R23 : List RT := [.pv (.mp 55 true (.pair (.int .i64) (.int .i64)) false .bool)]
noncomputable abbrev c23_L3 : Cut := ⟨[1, 3, 7, 8], [.box 29 [.cell (.sl 3 (.int .i64)), .cell (.sl 4 .bool)], .mp 55 true (.pair (.int .i64) (.int .i64)) false .bool, .cell (.int .i64), .cell (.int .i64)], [], 26⟩
noncomputable def l23_3 (k : Nat) (g3 : (List Int) → (List Bool) → (List ((Int × Int) × Bool)) → Int → Int → Option (((List ((Int × Int) × Bool)) × Unit) × Unit)) (s1 : List Int) (s2 : List Bool) (all : List ((Int × Int) × Bool)) (t7 : Int) (t8 : Int) : Option (((List ((Int × Int) × Bool)) × Unit) × Unit) :=
  (bif decide (t8 < t7) then
    ix s2 t8 <|
    (bif rd s2 t8 false then
      ix s1 t8 <|
      g3 s1 s2 (updD (.pair (.int .i64) (.int .i64)) .bool (t8, rd s1 t8 0) true all) t7 (IntKind.i64.wrap (t8 + 1))
    else
      g3 s1 s2 all t7 (IntKind.i64.wrap (t8 + 1)))
  else
    some ((all, ()), ()))
noncomputable def b23_3 (k : Nat) (g : ((Unit) × ((List Int) × (List Bool) × Unit) × (List ((Int × Int) × Bool)) × Int × Int × Unit) → Option (((List ((Int × Int) × Bool)) × Unit) × Unit)) (d : (Unit) × ((List Int) × (List Bool) × Unit) × (List ((Int × Int) × Bool)) × Int × Int × Unit) : Option (((List ((Int × Int) × Bool)) × Unit) × Unit) := l23_3 k (fun s1 s2 all t7 t8 => g ((), (s1, s2, ()), all, t7, t8, ())) d.2.1.1 d.2.1.2.1 d.2.2.1 d.2.2.2.1 d.2.2.2.2.1
noncomputable def L23_3 (k : Nat) (j : Nat) (s1 : List Int) (s2 : List Bool) (all : List ((Int × Int) × Bool)) (t7 : Int) (t8 : Int) : Option (((List ((Int × Int) × Bool)) × Unit) × Unit) := iter (R := ((List ((Int × Int) × Bool)) × Unit) × Unit) c23_L3 (b23_3 k) j ((), (s1, s2, ()), all, t7, t8, ())
theorem L23_3_s (k : Nat) (j : Nat) (s1 : List Int) (s2 : List Bool) (all : List ((Int × Int) × Bool)) (t7 : Int) (t8 : Int) : L23_3 k (j + 1) s1 s2 all t7 t8 = l23_3 k (L23_3 k j) s1 s2 all t7 t8 := iter_succ _ _ _ _
noncomputable def S23 (k : Nat) (s : (List Int) × List Bool) : Option (((List ((Int × Int) × Bool)) × Unit) × Unit) :=
  (S20 k s).bind fun q0 =>
  L23_3 k k s.1 s.2 ([] : List ((Int × Int) × Bool)) q0.1.1 0
noncomputable def E23 : Env := tab.env (lk [(20, F20)]) (hintL [])
theorem E23_ok : EnvOK Try.prog E23 := envOK_of tabOK _ _ (allFn_lk (l := [(20, F20)]) ⟨ok20, trivial⟩)
noncomputable def B23 (k : Nat) : Tbl (RD R23 × MD P23) := (.loop 3 c23_L3 (b23_3 k) (fun g => .nil) .nil)
noncomputable def F23 : Fn := ⟨P23, R23, fun k x => S23 k x.1⟩
theorem ok23 : FnOK Try.prog 23 F23 := evalF_ok (E := E23) (T := B23) E23_ok mix Try.func23 rfl (by kernel_rfl) (by kernel_rfl) (fun k => by kernel_rfl) (fun k x => by kernel_rfl)
/-! ### 15: 15 foliot/slots.Has -/
noncomputable abbrev P15 : List PT := [.val ⟨true, (.pair (.sl 3 (.int .i64)) (.sl 4 .bool)), false⟩, .val ⟨true, (.pair (.int .i64) (.int .i64)), false⟩]
noncomputable abbrev R15 : List RT := [.val ⟨false, .bool, true⟩]
noncomputable def S15 (k : Nat) (s : (List Int) × List Bool) (h : Int × Int) : Option ((Bool × Unit) × Unit) :=
  (S23 k s).bind fun q0 =>
  some ((mget (.pair (.int .i64) (.int .i64)) .bool h q0.1.1 false, ()), ())
noncomputable def E15 : Env := tab.env (lk [(23, F23)]) (hintL [])
theorem E15_ok : EnvOK Try.prog E15 := envOK_of tabOK _ _ (allFn_lk (l := [(23, F23)]) ⟨ok23, trivial⟩)
noncomputable def B15 (k : Nat) : Tbl (RD R15 × MD P15) := .nil
noncomputable def F15 : Fn := ⟨P15, R15, fun k x => S15 k x.1 x.2.1⟩
theorem ok15 : FnOK Try.prog 15 F15 := evalF_ok (E := E15) (T := B15) E15_ok mix Try.func15 rfl (by kernel_rfl) (by kernel_rfl) (fun k => by kernel_rfl) (fun k x => by kernel_rfl)
/-! ### 12: 12 foliot/slots.Free -/
noncomputable abbrev P12 : List PT := [.val ⟨true, (.pair (.sl 3 (.int .i64)) (.sl 4 .bool)), false⟩, .val ⟨true, (.pair (.int .i64) (.int .i64)), false⟩]
noncomputable abbrev R12 : List RT := [.val ⟨true, (.pair (.sl 3 (.int .i64)) (.sl 4 .bool)), true⟩, .val ⟨false, .bool, true⟩]
noncomputable def S12 (k : Nat) (s : (List Int) × List Bool) (h : Int × Int) : Option ((((List Int) × List Bool) × Bool × Unit) × Unit) :=
  (S18 k s).bind fun q0 =>
  (S15 k q0.1.1 h).bind fun q1 =>
  (bif !q1.1.1 then
    some ((q0.1.1, false, ()), ())
  else
    ix q0.1.1.2 h.1 <|
    some (((q0.1.1.1, upd q0.1.1.2 h.1 false), true, ()), ()))
noncomputable def E12 : Env := tab.env (lk [(15, F15), (18, F18)]) (hintL [])
theorem E12_ok : EnvOK Try.prog E12 := envOK_of tabOK _ _ (allFn_lk (l := [(15, F15), (18, F18)]) ⟨ok15, ok18, trivial⟩)
noncomputable def B12 (k : Nat) : Tbl (RD R12 × MD P12) := .nil
noncomputable def F12 : Fn := ⟨P12, R12, fun k x => S12 k x.1 x.2.1⟩
theorem ok12 : FnOK Try.prog 12 F12 := evalF_ok (E := E12) (T := B12) E12_ok mix Try.func12 rfl (by kernel_rfl) (by kernel_rfl) (fun k => by kernel_rfl) (fun k x => by kernel_rfl)
/-! ### 17: 17 foliot/slots.Len -/
noncomputable abbrev P17 : List PT := [.val ⟨true, (.pair (.sl 3 (.int .i64)) (.sl 4 .bool)), false⟩]
noncomputable abbrev R17 : List RT := [.val ⟨false, (.int .i64), true⟩]
noncomputable def S17 (k : Nat) (s : (List Int) × List Bool) : Option ((Int × Unit) × Unit) :=
  (S23 k s).bind fun q0 =>
  some (((q0.1.1.length : Int), ()), ())
noncomputable def E17 : Env := tab.env (lk [(23, F23)]) (hintL [])
theorem E17_ok : EnvOK Try.prog E17 := envOK_of tabOK _ _ (allFn_lk (l := [(23, F23)]) ⟨ok23, trivial⟩)
noncomputable def B17 (k : Nat) : Tbl (RD R17 × MD P17) := .nil
noncomputable def F17 : Fn := ⟨P17, R17, fun k x => S17 k x.1⟩
theorem ok17 : FnOK Try.prog 17 F17 := evalF_ok (E := E17) (T := B17) E17_ok mix Try.func17 rfl (by kernel_rfl) (by kernel_rfl) (fun k => by kernel_rfl) (fun k x => by kernel_rfl)
/-! ### 7: 7 foliot/foliotlaw2.begun -/
noncomputable abbrev P7 : List PT := []
noncomputable abbrev R7 : List RT := [.val ⟨false, .bool, true⟩]
noncomputable def S7 (k : Nat) : Option ((Bool × Unit) × Unit) :=
  (S8 k 2).bind fun q0 =>
  (S10 k q0.1.1).bind fun q1 =>
  (S12 k q1.1.1 q1.1.2.1).bind fun q2 =>
  (S10 k q2.1.1).bind fun q3 =>
  (bif q1.1.2.2.1 then
    (bif beqD (.pair (.int .i64) (.int .i64)) q1.1.2.1 (0, 1) then
      (bif q2.1.2.1 then
        (bif q3.1.2.2.1 then
          (bif beqD (.pair (.int .i64) (.int .i64)) q3.1.2.1 (0, 2) then
            (S15 k q3.1.1 q3.1.2.1).bind fun q4 =>
            (bif q4.1.1 then
              (S15 k q3.1.1 q1.1.2.1).bind fun q5 =>
              (bif !q5.1.1 then
                (S17 k q3.1.1).bind fun q6 =>
                some ((q6.1.1 == 1, ()), ())
              else
                some ((false, ()), ()))
            else
              some ((false, ()), ()))
          else
            some ((false, ()), ()))
        else
          some ((false, ()), ()))
      else
        some ((false, ()), ()))
    else
      some ((false, ()), ()))
  else
    some ((false, ()), ()))
noncomputable def E7 : Env := tab.env (lk [(8, F8), (10, F10), (12, F12), (15, F15), (17, F17)]) (hintL [])
theorem E7_ok : EnvOK Try.prog E7 := envOK_of tabOK _ _ (allFn_lk (l := [(8, F8), (10, F10), (12, F12), (15, F15), (17, F17)]) ⟨ok8, ok10, ok12, ok15, ok17, trivial⟩)
noncomputable def B7 (k : Nat) : Tbl (RD R7 × MD P7) := .nil
noncomputable def F7 : Fn := ⟨P7, R7, fun k x => S7 k ⟩
theorem ok7 : FnOK Try.prog 7 F7 := evalF_ok (E := E7) (T := B7) E7_ok mix Try.func7 rfl (by kernel_rfl) (by kernel_rfl) (fun k => by kernel_rfl) (fun k x => by kernel_rfl)
/-! ### 9: 9 foliot/foliotref1.NewSlots -/
noncomputable abbrev P9 : List PT := [.val ⟨false, (.int .i64), false⟩]
noncomputable abbrev R9 : List RT := [.val ⟨true, (.pair (.sl 3 (.int .i64)) (.sl 4 .bool)), true⟩]
noncomputable def S9 (k : Nat) (n : Int) : Option ((((List Int) × List Bool) × Unit) × Unit) :=
  mk (mn (mx n 0) 64) (mn (mx n 0) 64) 8 <|
  mk (mn (mx n 0) 64) (mn (mx n 0) 64) 1 <|
  some (((List.replicate (mn (mx n 0) 64).toNat (0 : Int), List.replicate (mn (mx n 0) 64).toNat (false : Bool)), ()), ())
noncomputable def E9 : Env := tab.env (lk []) (hintL [])
theorem E9_ok : EnvOK Try.prog E9 := envOK_of tabOK _ _ (fun f F h => by cases h)
noncomputable def B9 (k : Nat) : Tbl (RD R9 × MD P9) := .nil
noncomputable def F9 : Fn := ⟨P9, R9, fun k x => S9 k x.1⟩
theorem ok9 : FnOK Try.prog 9 F9 := evalF_ok (E := E9) (T := B9) E9_ok mix Try.func9 rfl (by kernel_rfl) (by kernel_rfl) (fun k => by kernel_rfl) (fun k x => by kernel_rfl)
/-! ### 21: 21 (foliot/foliotref1.Slots).copy -/
noncomputable abbrev P21 : List PT := [.val ⟨true, (.pair (.sl 3 (.int .i64)) (.sl 4 .bool)), false⟩]
noncomputable abbrev R21 : List RT := [.val ⟨true, (.pair (.sl 3 (.int .i64)) (.sl 4 .bool)), true⟩]
noncomputable def S21 (k : Nat) (s : (List Int) × List Bool) : Option ((((List Int) × List Bool) × Unit) × Unit) :=
  ap ([] : List Int) s.1 8 fun r0 =>
  ap ([] : List Bool) s.2 1 fun r1 =>
  some (((r0, r1), ()), ())
noncomputable def E21 : Env := tab.env (lk []) (hintL [])
theorem E21_ok : EnvOK Try.prog E21 := envOK_of tabOK _ _ (fun f F h => by cases h)
noncomputable def B21 (k : Nat) : Tbl (RD R21 × MD P21) := .nil
noncomputable def F21 : Fn := ⟨P21, R21, fun k x => S21 k x.1⟩
theorem ok21 : FnOK Try.prog 21 F21 := evalF_ok (E := E21) (T := B21) E21_ok mix Try.func21 rfl (by kernel_rfl) (by kernel_rfl) (fun k => by kernel_rfl) (fun k x => by kernel_rfl)
/-! ### 11: 11 foliot/foliotref1.TakeSlot -/
noncomputable abbrev P11 : List PT := [.val ⟨true, (.pair (.sl 3 (.int .i64)) (.sl 4 .bool)), false⟩]
noncomputable abbrev R11 : List RT := [.val ⟨true, (.pair (.sl 3 (.int .i64)) (.sl 4 .bool)), true⟩, .val ⟨true, (.pair (.int .i64) (.int .i64)), true⟩, .val ⟨false, .bool, true⟩]
noncomputable abbrev c11_L3 : Cut := ⟨[2, 3, 5, 6], [.box 31 [.nil, .nil], .box 24 [.cell (.int .i64), .cell (.int .i64)], .box 31 [.own 3 (.int .i64), .own 4 .bool], .cell (.int .i64)], [], 50⟩
noncomputable def l11_3 (k : Nat) (g3 : Int → Int → (List Int) → (List Bool) → Int → Option ((((List Int) × List Bool) × (Int × Int) × Bool × Unit) × Unit)) (t3 : Int) (t3_1 : Int) (x : List Int) (x1 : List Bool) (i : Int) : Option ((((List Int) × List Bool) × (Int × Int) × Bool × Unit) × Unit) :=
  (bif decide (i < (x1.length : Int)) then
    (bif decide (i < (x.length : Int)) then
      ix x1 i <|
      (bif !(rd x1 i false) then
        ix x1 i <|
        ix x i <|
        ix x i <|
        ix (upd x i (IntKind.i64.wrap ((rd x i 0) + 1))) i <|
        some (((upd x i (IntKind.i64.wrap ((rd x i 0) + 1)), upd x1 i true), (i, rd (upd x i (IntKind.i64.wrap ((rd x i 0) + 1))) i 0), true, ()), ())
      else
        g3 t3 t3_1 x x1 (IntKind.i64.wrap (i + 1)))
    else
      some (((x, x1), (0, 0), false, ()), ()))
  else
    some (((x, x1), (0, 0), false, ()), ()))
noncomputable def b11_3 (k : Nat) (g : ((Unit) × (Unit × Unit × Unit) × (Int × Int × Unit) × ((List Int) × (List Bool) × Unit) × Int × Unit) → Option ((((List Int) × List Bool) × (Int × Int) × Bool × Unit) × Unit)) (d : (Unit) × (Unit × Unit × Unit) × (Int × Int × Unit) × ((List Int) × (List Bool) × Unit) × Int × Unit) : Option ((((List Int) × List Bool) × (Int × Int) × Bool × Unit) × Unit) := l11_3 k (fun t3 t3_1 x x1 i => g ((), ((), (), ()), (t3, t3_1, ()), (x, x1, ()), i, ())) d.2.2.1.1 d.2.2.1.2.1 d.2.2.2.1.1 d.2.2.2.1.2.1 d.2.2.2.2.1
noncomputable def L11_3 (k : Nat) (j : Nat) (t3 : Int) (t3_1 : Int) (x : List Int) (x1 : List Bool) (i : Int) : Option ((((List Int) × List Bool) × (Int × Int) × Bool × Unit) × Unit) := iter (R := (((List Int) × List Bool) × (Int × Int) × Bool × Unit) × Unit) c11_L3 (b11_3 k) j ((), ((), (), ()), (t3, t3_1, ()), (x, x1, ()), i, ())
theorem L11_3_s (k : Nat) (j : Nat) (t3 : Int) (t3_1 : Int) (x : List Int) (x1 : List Bool) (i : Int) : L11_3 k (j + 1) t3 t3_1 x x1 i = l11_3 k (L11_3 k j) t3 t3_1 x x1 i := iter_succ _ _ _ _
noncomputable def S11 (k : Nat) (s : (List Int) × List Bool) : Option ((((List Int) × List Bool) × (Int × Int) × Bool × Unit) × Unit) :=
  (S21 k s).bind fun q0 =>
  L11_3 k k 0 0 q0.1.1.1 q0.1.1.2 0
noncomputable def E11 : Env := tab.env (lk [(21, F21)]) (hintL [])
theorem E11_ok : EnvOK Try.prog E11 := envOK_of tabOK _ _ (allFn_lk (l := [(21, F21)]) ⟨ok21, trivial⟩)
noncomputable def B11 (k : Nat) : Tbl (RD R11 × MD P11) := (.loop 3 c11_L3 (b11_3 k) (fun g => .nil) .nil)
noncomputable def F11 : Fn := ⟨P11, R11, fun k x => S11 k x.1⟩
theorem ok11 : FnOK Try.prog 11 F11 := evalF_ok (E := E11) (T := B11) E11_ok mix Try.func11 rfl (by kernel_rfl) (by kernel_rfl) (fun k => by kernel_rfl) (fun k x => by kernel_rfl)
/-! ### 16: 16 foliot/foliotref1.HasSlot -/
noncomputable abbrev P16 : List PT := [.val ⟨true, (.pair (.sl 3 (.int .i64)) (.sl 4 .bool)), false⟩, .val ⟨true, (.pair (.int .i64) (.int .i64)), false⟩]
noncomputable abbrev R16 : List RT := [.val ⟨false, .bool, true⟩]
noncomputable def S16 (k : Nat) (s : (List Int) × List Bool) (h : Int × Int) : Option ((Bool × Unit) × Unit) :=
  (bif decide (h.1 ≥ 0) then
    (bif decide (h.1 < (s.2.length : Int)) then
      (bif decide (h.1 < (s.1.length : Int)) then
        ix s.2 h.1 <|
        (bif rd s.2 h.1 false then
          ix s.1 h.1 <|
          some (((rd s.1 h.1 0) == h.2, ()), ())
        else
          some ((false, ()), ()))
      else
        some ((false, ()), ()))
    else
      some ((false, ()), ()))
  else
    some ((false, ()), ()))
noncomputable def E16 : Env := tab.env (lk []) (hintL [])
theorem E16_ok : EnvOK Try.prog E16 := envOK_of tabOK _ _ (fun f F h => by cases h)
noncomputable def B16 (k : Nat) : Tbl (RD R16 × MD P16) := .nil
noncomputable def F16 : Fn := ⟨P16, R16, fun k x => S16 k x.1 x.2.1⟩
theorem ok16 : FnOK Try.prog 16 F16 := evalF_ok (E := E16) (T := B16) E16_ok mix Try.func16 rfl (by kernel_rfl) (by kernel_rfl) (fun k => by kernel_rfl) (fun k x => by kernel_rfl)
/-! ### 13: 13 foliot/foliotref1.FreeSlot -/
noncomputable abbrev P13 : List PT := [.val ⟨true, (.pair (.sl 3 (.int .i64)) (.sl 4 .bool)), false⟩, .val ⟨true, (.pair (.int .i64) (.int .i64)), false⟩]
noncomputable abbrev R13 : List RT := [.val ⟨true, (.pair (.sl 3 (.int .i64)) (.sl 4 .bool)), true⟩, .val ⟨false, .bool, true⟩]
noncomputable def S13 (k : Nat) (s : (List Int) × List Bool) (h : Int × Int) : Option ((((List Int) × List Bool) × Bool × Unit) × Unit) :=
  (S21 k s).bind fun q0 =>
  (S16 k s h).bind fun q1 =>
  (bif !q1.1.1 then
    some ((q0.1.1, false, ()), ())
  else
    ix q0.1.1.2 h.1 <|
    some (((q0.1.1.1, upd q0.1.1.2 h.1 false), true, ()), ()))
noncomputable def E13 : Env := tab.env (lk [(16, F16), (21, F21)]) (hintL [])
theorem E13_ok : EnvOK Try.prog E13 := envOK_of tabOK _ _ (allFn_lk (l := [(16, F16), (21, F21)]) ⟨ok16, ok21, trivial⟩)
noncomputable def B13 (k : Nat) : Tbl (RD R13 × MD P13) := .nil
noncomputable def F13 : Fn := ⟨P13, R13, fun k x => S13 k x.1 x.2.1⟩
theorem ok13 : FnOK Try.prog 13 F13 := evalF_ok (E := E13) (T := B13) E13_ok mix Try.func13 rfl (by kernel_rfl) (by kernel_rfl) (fun k => by kernel_rfl) (fun k x => by kernel_rfl)
/-! ### 22: 22 foliot/foliotref1.SameSlots -/
noncomputable abbrev P22 : List PT := [.val ⟨true, (.pair (.sl 3 (.int .i64)) (.sl 4 .bool)), false⟩, .val ⟨true, (.pair (.sl 3 (.int .i64)) (.sl 4 .bool)), false⟩]
noncomputable abbrev R22 : List RT := [.val ⟨false, .bool, true⟩]
noncomputable abbrev c22_L9 : Cut := ⟨[2, 3, 6], [.box 31 [.cell (.sl 3 (.int .i64)), .cell (.sl 4 .bool)], .box 31 [.cell (.sl 3 (.int .i64)), .cell (.sl 4 .bool)], .cell (.int .i64)], [], 59⟩
noncomputable def l22_9 (k : Nat) (g9 : (List Int) → (List Bool) → (List Int) → (List Bool) → Int → Option ((Bool × Unit) × Unit)) (a3 : List Int) (a4 : List Bool) (b3 : List Int) (b4 : List Bool) (i1 : Int) : Option ((Bool × Unit) × Unit) :=
  (bif decide (i1 < (a4.length : Int)) then
    ix a4 i1 <|
    ix b4 i1 <|
    (bif !((rd a4 i1 false) == (rd b4 i1 false)) then
      some ((false, ()), ())
    else
      g9 a3 a4 b3 b4 (IntKind.i64.wrap (i1 + 1)))
  else
    some ((true, ()), ()))
noncomputable def b22_9 (k : Nat) (g : ((Unit) × ((List Int) × (List Bool) × Unit) × ((List Int) × (List Bool) × Unit) × Int × Unit) → Option ((Bool × Unit) × Unit)) (d : (Unit) × ((List Int) × (List Bool) × Unit) × ((List Int) × (List Bool) × Unit) × Int × Unit) : Option ((Bool × Unit) × Unit) := l22_9 k (fun a3 a4 b3 b4 i1 => g ((), (a3, a4, ()), (b3, b4, ()), i1, ())) d.2.1.1 d.2.1.2.1 d.2.2.1.1 d.2.2.1.2.1 d.2.2.2.1
noncomputable def L22_9 (k : Nat) (j : Nat) (a3 : List Int) (a4 : List Bool) (b3 : List Int) (b4 : List Bool) (i1 : Int) : Option ((Bool × Unit) × Unit) := iter (R := (Bool × Unit) × Unit) c22_L9 (b22_9 k) j ((), (a3, a4, ()), (b3, b4, ()), i1, ())
theorem L22_9_s (k : Nat) (j : Nat) (a3 : List Int) (a4 : List Bool) (b3 : List Int) (b4 : List Bool) (i1 : Int) : L22_9 k (j + 1) a3 a4 b3 b4 i1 = l22_9 k (L22_9 k j) a3 a4 b3 b4 i1 := iter_succ _ _ _ _
noncomputable abbrev c22_L4 : Cut := ⟨[2, 3, 5], [.box 31 [.cell (.sl 3 (.int .i64)), .cell (.sl 4 .bool)], .box 31 [.cell (.sl 3 (.int .i64)), .cell (.sl 4 .bool)], .cell (.int .i64)], [], 59⟩
noncomputable def l22_4 (k : Nat) (g4 : (List Int) → (List Bool) → (List Int) → (List Bool) → Int → Option ((Bool × Unit) × Unit)) (a1 : List Int) (a2 : List Bool) (b1 : List Int) (b2 : List Bool) (i : Int) : Option ((Bool × Unit) × Unit) :=
  (bif decide (i < (a1.length : Int)) then
    ix a1 i <|
    ix b1 i <|
    (bif (rd a1 i 0) != (rd b1 i 0) then
      some ((false, ()), ())
    else
      g4 a1 a2 b1 b2 (IntKind.i64.wrap (i + 1)))
  else
    L22_9 k k a1 a2 b1 b2 0)
noncomputable def b22_4 (k : Nat) (g : ((Unit) × ((List Int) × (List Bool) × Unit) × ((List Int) × (List Bool) × Unit) × Int × Unit) → Option ((Bool × Unit) × Unit)) (d : (Unit) × ((List Int) × (List Bool) × Unit) × ((List Int) × (List Bool) × Unit) × Int × Unit) : Option ((Bool × Unit) × Unit) := l22_4 k (fun a1 a2 b1 b2 i => g ((), (a1, a2, ()), (b1, b2, ()), i, ())) d.2.1.1 d.2.1.2.1 d.2.2.1.1 d.2.2.1.2.1 d.2.2.2.1
noncomputable def L22_4 (k : Nat) (j : Nat) (a1 : List Int) (a2 : List Bool) (b1 : List Int) (b2 : List Bool) (i : Int) : Option ((Bool × Unit) × Unit) := iter (R := (Bool × Unit) × Unit) c22_L4 (b22_4 k) j ((), (a1, a2, ()), (b1, b2, ()), i, ())
theorem L22_4_s (k : Nat) (j : Nat) (a1 : List Int) (a2 : List Bool) (b1 : List Int) (b2 : List Bool) (i : Int) : L22_4 k (j + 1) a1 a2 b1 b2 i = l22_4 k (L22_4 k j) a1 a2 b1 b2 i := iter_succ _ _ _ _
noncomputable def S22 (k : Nat) (a : (List Int) × List Bool) (b : (List Int) × List Bool) : Option ((Bool × Unit) × Unit) :=
  (bif (a.1.length : Int) != (b.1.length : Int) then
    some ((false, ()), ())
  else
    (bif (a.2.length : Int) != (b.2.length : Int) then
      some ((false, ()), ())
    else
      L22_4 k k a.1 a.2 b.1 b.2 0))
noncomputable def E22 : Env := tab.env (lk []) (hintL [])
theorem E22_ok : EnvOK Try.prog E22 := envOK_of tabOK _ _ (fun f F h => by cases h)
noncomputable def B22 (k : Nat) : Tbl (RD R22 × MD P22) := (.loop 9 c22_L9 (b22_9 k) (fun g => .nil) (.loop 4 c22_L4 (b22_4 k) (fun g => .nil) .nil))
noncomputable def F22 : Fn := ⟨P22, R22, fun k x => S22 k x.1 x.2.1⟩
theorem ok22 : FnOK Try.prog 22 F22 := evalF_ok (E := E22) (T := B22) E22_ok mix Try.func22 rfl (by kernel_rfl) (by kernel_rfl) (fun k => by kernel_rfl) (fun k x => by kernel_rfl)
/-! ### 14: 14 foliot/foliotlaw2.same -/
noncomputable abbrev P14 : List PT := [.val ⟨true, (.pair (.sl 3 (.int .i64)) (.sl 4 .bool)), false⟩, .val ⟨true, (.pair (.sl 3 (.int .i64)) (.sl 4 .bool)), false⟩]
noncomputable abbrev R14 : List RT := [.val ⟨false, .bool, true⟩]
noncomputable def S14 (k : Nat) (a : (List Int) × List Bool) (b : (List Int) × List Bool) : Option ((Bool × Unit) × Unit) :=
  (S22 k a b).bind fun q0 =>
  some ((q0.1.1, ()), ())
noncomputable def E14 : Env := tab.env (lk [(22, F22)]) (hintL [])
theorem E14_ok : EnvOK Try.prog E14 := envOK_of tabOK _ _ (allFn_lk (l := [(22, F22)]) ⟨ok22, trivial⟩)
noncomputable def B14 (k : Nat) : Tbl (RD R14 × MD P14) := .nil
noncomputable def F14 : Fn := ⟨P14, R14, fun k x => S14 k x.1 x.2.1⟩
theorem ok14 : FnOK Try.prog 14 F14 := evalF_ok (E := E14) (T := B14) E14_ok mix Try.func14 rfl (by kernel_rfl) (by kernel_rfl) (fun k => by kernel_rfl) (fun k x => by kernel_rfl)
/-! ### 3: 3 foliot/foliotlaw2.SlotsAll -/
noncomputable abbrev P3 : List PT := [.val ⟨false, (.int .i64), false⟩, .val ⟨false, (.sl 34 (.pair (.int .u8) (.pair (.int .u8) (.int .u8)))), false⟩, .val ⟨true, (.pair (.int .i64) (.int .i64)), false⟩]
noncomputable abbrev R3 : List RT := [.val ⟨false, .bool, true⟩]
noncomputable abbrev c3_L28 : Cut := ⟨[1, 5, 7, 8, 9, 10, 11, 22, 23], [.cell (.sl 34 (.pair (.int .u8) (.pair (.int .u8) (.int .u8)))), .box 24 [.cell (.int .i64), .cell (.int .i64)], .box 29 [.own 3 (.int .i64), .own 4 .bool], .box 31 [.own 3 (.int .i64), .own 4 .bool], .own 24 (.pair (.int .i64) (.int .i64)), .cell (.int .i64), .box 24 [.cell (.int .i64), .cell (.int .i64)], .cell (.int .i64), .cell (.int .i64)], [], 174⟩
noncomputable def l3_28 (k : Nat) (g8 : (List (Int × Int × Int)) → Int → Int → (List Int) → (List Bool) → (List Int) → (List Bool) → (List (Int × Int)) → Int → Option ((Bool × Unit) × Unit)) (g28 : (List (Int × Int × Int)) → Int → Int → (List Int) → (List Bool) → (List Int) → (List Bool) → (List (Int × Int)) → Int → Int → Int → Int → Int → Option ((Bool × Unit) × Unit)) (l_3 : List (Int × Int × Int)) (h5 : Int) (h6 : Int) (a4 : List Int) (a5 : List Bool) (b4 : List Int) (b5 : List Bool) (told2 : List (Int × Int)) (i2 : Int) (x2 : Int) (x3 : Int) (m : Int) (k_ : Int) : Option ((Bool × Unit) × Unit) :=
  (bif decide (k_ < (b5.length : Int)) then
    ix b5 k_ <|
    (bif rd b5 k_ false then
      g28 l_3 h5 h6 a4 a5 b4 b5 told2 i2 x2 x3 (IntKind.i64.wrap (m + 1)) (IntKind.i64.wrap (k_ + 1))
    else
      g28 l_3 h5 h6 a4 a5 b4 b5 told2 i2 x2 x3 m (IntKind.i64.wrap (k_ + 1)))
  else
    (S14 k (a4, a5) (b4, b5)).bind fun q6 =>
    (bif !q6.1.1 then
      some ((false, ()), ())
    else
      (S15 k (a4, a5) (x2, x3)).bind fun q7 =>
      (S16 k (b4, b5) (x2, x3)).bind fun q8 =>
      (bif !(q7.1.1 == q8.1.1) then
        some ((false, ()), ())
      else
        (S15 k (a4, a5) (h5, h6)).bind fun q9 =>
        (S16 k (b4, b5) (h5, h6)).bind fun q10 =>
        (bif !(q9.1.1 == q10.1.1) then
          some ((false, ()), ())
        else
          (S17 k (a4, a5)).bind fun q11 =>
          (bif q11.1.1 != m then
            some ((false, ()), ())
          else
            g8 l_3 h5 h6 a4 a5 b4 b5 told2 (IntKind.i64.wrap (i2 + 1)))))))
noncomputable def b3_28 (k : Nat) (g8 : (List (Int × Int × Int)) → Int → Int → (List Int) → (List Bool) → (List Int) → (List Bool) → (List (Int × Int)) → Int → Option ((Bool × Unit) × Unit)) (g : ((Unit) × (List (Int × Int × Int)) × (Int × Int × Unit) × ((List Int) × (List Bool) × Unit) × ((List Int) × (List Bool) × Unit) × (List (Int × Int)) × Int × (Int × Int × Unit) × Int × Int × Unit) → Option ((Bool × Unit) × Unit)) (d : (Unit) × (List (Int × Int × Int)) × (Int × Int × Unit) × ((List Int) × (List Bool) × Unit) × ((List Int) × (List Bool) × Unit) × (List (Int × Int)) × Int × (Int × Int × Unit) × Int × Int × Unit) : Option ((Bool × Unit) × Unit) := l3_28 k g8 (fun l_3 h5 h6 a4 a5 b4 b5 told2 i2 x2 x3 m k_ => g ((), l_3, (h5, h6, ()), (a4, a5, ()), (b4, b5, ()), told2, i2, (x2, x3, ()), m, k_, ())) d.2.1 d.2.2.1.1 d.2.2.1.2.1 d.2.2.2.1.1 d.2.2.2.1.2.1 d.2.2.2.2.1.1 d.2.2.2.2.1.2.1 d.2.2.2.2.2.1 d.2.2.2.2.2.2.1 d.2.2.2.2.2.2.2.1.1 d.2.2.2.2.2.2.2.1.2.1 d.2.2.2.2.2.2.2.2.1 d.2.2.2.2.2.2.2.2.2.1
noncomputable def L3_28 (k : Nat) (g8 : (List (Int × Int × Int)) → Int → Int → (List Int) → (List Bool) → (List Int) → (List Bool) → (List (Int × Int)) → Int → Option ((Bool × Unit) × Unit)) (j : Nat) (l_3 : List (Int × Int × Int)) (h5 : Int) (h6 : Int) (a4 : List Int) (a5 : List Bool) (b4 : List Int) (b5 : List Bool) (told2 : List (Int × Int)) (i2 : Int) (x2 : Int) (x3 : Int) (m : Int) (k_ : Int) : Option ((Bool × Unit) × Unit) := iter (R := (Bool × Unit) × Unit) c3_L28 (b3_28 k g8) j ((), l_3, (h5, h6, ()), (a4, a5, ()), (b4, b5, ()), told2, i2, (x2, x3, ()), m, k_, ())
theorem L3_28_s (k : Nat) (g8 : (List (Int × Int × Int)) → Int → Int → (List Int) → (List Bool) → (List Int) → (List Bool) → (List (Int × Int)) → Int → Option ((Bool × Unit) × Unit)) (j : Nat) (l_3 : List (Int × Int × Int)) (h5 : Int) (h6 : Int) (a4 : List Int) (a5 : List Bool) (b4 : List Int) (b5 : List Bool) (told2 : List (Int × Int)) (i2 : Int) (x2 : Int) (x3 : Int) (m : Int) (k_ : Int) : L3_28 k g8 (j + 1) l_3 h5 h6 a4 a5 b4 b5 told2 i2 x2 x3 m k_ = l3_28 k g8 (L3_28 k g8 j) l_3 h5 h6 a4 a5 b4 b5 told2 i2 x2 x3 m k_ := iter_succ _ _ _ _
noncomputable abbrev c3_J13 : Cut := ⟨[1, 5, 7, 8, 9, 10, 11], [.cell (.sl 34 (.pair (.int .u8) (.pair (.int .u8) (.int .u8)))), .box 24 [.cell (.int .i64), .cell (.int .i64)], .box 29 [.own 3 (.int .i64), .own 4 .bool], .box 31 [.own 3 (.int .i64), .own 4 .bool], .own 24 (.pair (.int .i64) (.int .i64)), .cell (.int .i64), .box 24 [.cell (.int .i64), .cell (.int .i64)]], [], 174⟩
noncomputable def j3_13 (k : Nat) (g8 : (List (Int × Int × Int)) → Int → Int → (List Int) → (List Bool) → (List Int) → (List Bool) → (List (Int × Int)) → Int → Option ((Bool × Unit) × Unit)) (l_2 : List (Int × Int × Int)) (h3 : Int) (h4 : Int) (a2 : List Int) (a3 : List Bool) (b2 : List Int) (b3 : List Bool) (told1 : List (Int × Int)) (i1 : Int) (x : Int) (x1 : Int) : Option ((Bool × Unit) × Unit) :=
  ix l_2 i1 <|
  (bif decide ((Int.tmod (rd l_2 i1 (0, 0, 0)).1 4) < 2) then
    (S10 k (a2, a3)).bind fun q3 =>
    (S11 k (b2, b3)).bind fun q4 =>
    (bif !(beqD (.pair (.int .i64) (.int .i64)) q3.1.2.1 q4.1.2.1) then
      some ((false, ()), ())
    else
      (bif !(q3.1.2.2.1 == q4.1.2.2.1) then
        some ((false, ()), ())
      else
        (bif q4.1.2.2.1 then
          ap told1 ([q4.1.2.1] : List (Int × Int)) 16 fun r5 =>
          L3_28 k g8 k l_2 h3 h4 q3.1.1.1 q3.1.1.2 q4.1.1.1 q4.1.1.2 r5 i1 x x1 0 0
        else
          L3_28 k g8 k l_2 h3 h4 q3.1.1.1 q3.1.1.2 q4.1.1.1 q4.1.1.2 told1 i1 x x1 0 0)))
  else
    (S12 k (a2, a3) (x, x1)).bind fun q12 =>
    (S13 k (b2, b3) (x, x1)).bind fun q13 =>
    (bif !(q12.1.2.1 == q13.1.2.1) then
      some ((false, ()), ())
    else
      L3_28 k g8 k l_2 h3 h4 q12.1.1.1 q12.1.1.2 q13.1.1.1 q13.1.1.2 told1 i1 x x1 0 0))
noncomputable abbrev c3_L8 : Cut := ⟨[1, 5, 7, 8, 9, 10], [.cell (.sl 34 (.pair (.int .u8) (.pair (.int .u8) (.int .u8)))), .box 24 [.cell (.int .i64), .cell (.int .i64)], .box 29 [.own 3 (.int .i64), .own 4 .bool], .box 31 [.own 3 (.int .i64), .own 4 .bool], .own 24 (.pair (.int .i64) (.int .i64)), .cell (.int .i64)], [], 174⟩
noncomputable def l3_8 (k : Nat) (g8 : (List (Int × Int × Int)) → Int → Int → (List Int) → (List Bool) → (List Int) → (List Bool) → (List (Int × Int)) → Int → Option ((Bool × Unit) × Unit)) (l_1 : List (Int × Int × Int)) (h1 : Int) (h2 : Int) (a : List Int) (a1 : List Bool) (b : List Int) (b1 : List Bool) (told : List (Int × Int)) (i : Int) : Option ((Bool × Unit) × Unit) :=
  (bif decide (i < (l_1.length : Int)) then
    ix l_1 i <|
    ix l_1 i <|
    (bif decide ((told.length : Int) > 0) then
      ix l_1 i <|
      (bif (Int.tmod (rd l_1 i (0, 0, 0)).1 4) == 2 then
        ix l_1 i <|
        nz (told.length : Int) <|
        ix told (Int.tmod (IntKind.i64.wrap (rd l_1 i (0, 0, 0)).2.1) (told.length : Int)) <|
        j3_13 k g8 l_1 h1 h2 a a1 b b1 told i (rd told (Int.tmod (IntKind.i64.wrap (rd l_1 i (0, 0, 0)).2.1) (told.length : Int)) (0, 0)).1 (rd told (Int.tmod (IntKind.i64.wrap (rd l_1 i (0, 0, 0)).2.1) (told.length : Int)) (0, 0)).2
      else
        j3_13 k g8 l_1 h1 h2 a a1 b b1 told i (IntKind.i64.wrap (Int.tmod (rd l_1 i (0, 0, 0)).2.1 9)) (IntKind.i64.wrap (Int.tmod (rd l_1 i (0, 0, 0)).2.2 5)))
    else
      j3_13 k g8 l_1 h1 h2 a a1 b b1 told i (IntKind.i64.wrap (Int.tmod (rd l_1 i (0, 0, 0)).2.1 9)) (IntKind.i64.wrap (Int.tmod (rd l_1 i (0, 0, 0)).2.2 5)))
  else
    (S14 k (a, a1) (b, b1)).bind fun q14 =>
    some ((q14.1.1, ()), ()))
noncomputable def b3_8 (k : Nat) (g : ((Unit) × (List (Int × Int × Int)) × (Int × Int × Unit) × ((List Int) × (List Bool) × Unit) × ((List Int) × (List Bool) × Unit) × (List (Int × Int)) × Int × Unit) → Option ((Bool × Unit) × Unit)) (d : (Unit) × (List (Int × Int × Int)) × (Int × Int × Unit) × ((List Int) × (List Bool) × Unit) × ((List Int) × (List Bool) × Unit) × (List (Int × Int)) × Int × Unit) : Option ((Bool × Unit) × Unit) := l3_8 k (fun l_1 h1 h2 a a1 b b1 told i => g ((), l_1, (h1, h2, ()), (a, a1, ()), (b, b1, ()), told, i, ())) d.2.1 d.2.2.1.1 d.2.2.1.2.1 d.2.2.2.1.1 d.2.2.2.1.2.1 d.2.2.2.2.1.1 d.2.2.2.2.1.2.1 d.2.2.2.2.2.1 d.2.2.2.2.2.2.1
noncomputable def L3_8 (k : Nat) (j : Nat) (l_1 : List (Int × Int × Int)) (h1 : Int) (h2 : Int) (a : List Int) (a1 : List Bool) (b : List Int) (b1 : List Bool) (told : List (Int × Int)) (i : Int) : Option ((Bool × Unit) × Unit) := iter (R := (Bool × Unit) × Unit) c3_L8 (b3_8 k) j ((), l_1, (h1, h2, ()), (a, a1, ()), (b, b1, ()), told, i, ())
theorem L3_8_s (k : Nat) (j : Nat) (l_1 : List (Int × Int × Int)) (h1 : Int) (h2 : Int) (a : List Int) (a1 : List Bool) (b : List Int) (b1 : List Bool) (told : List (Int × Int)) (i : Int) : L3_8 k (j + 1) l_1 h1 h2 a a1 b b1 told i = l3_8 k (L3_8 k j) l_1 h1 h2 a a1 b b1 told i := iter_succ _ _ _ _
noncomputable def S3 (k : Nat) (n : Int) (l_ : List (Int × Int × Int)) (h : Int × Int) : Option ((Bool × Unit) × Unit) :=
  (S7 k).bind fun q0 =>
  (bif !q0.1.1 then
    some ((false, ()), ())
  else
    (bif decide ((l_.length : Int) > 60) then
      some ((true, ()), ())
    else
      (S8 k n).bind fun q1 =>
      (S9 k n).bind fun q2 =>
      L3_8 k k l_ h.1 h.2 q1.1.1.1 q1.1.1.2 q2.1.1.1 q2.1.1.2 ([] : List (Int × Int)) 0))
noncomputable def E3 : Env := tab.env (lk [(7, F7), (8, F8), (9, F9), (10, F10), (11, F11), (12, F12), (13, F13), (14, F14), (15, F15), (16, F16), (17, F17)]) (hintL [(9, 2)])
theorem E3_ok : EnvOK Try.prog E3 := envOK_of tabOK _ _ (allFn_lk (l := [(7, F7), (8, F8), (9, F9), (10, F10), (11, F11), (12, F12), (13, F13), (14, F14), (15, F15), (16, F16), (17, F17)]) ⟨ok7, ok8, ok9, ok10, ok11, ok12, ok13, ok14, ok15, ok16, ok17, trivial⟩)
noncomputable def B3 (k : Nat) : Tbl (RD R3 × MD P3) := (.loop 8 c3_L8 (b3_8 k) (fun g => (fun (g8 : (List (Int × Int × Int)) → Int → Int → (List Int) → (List Bool) → (List Int) → (List Bool) → (List (Int × Int)) → Int → Option ((Bool × Unit) × Unit)) => (.loop 28 c3_L28 (b3_28 k g8) (fun g => .nil) (.join 13 c3_J13 (fun d => j3_13 k g8 d.2.1 d.2.2.1.1 d.2.2.1.2.1 d.2.2.2.1.1 d.2.2.2.1.2.1 d.2.2.2.2.1.1 d.2.2.2.2.1.2.1 d.2.2.2.2.2.1 d.2.2.2.2.2.2.1 d.2.2.2.2.2.2.2.1.1 d.2.2.2.2.2.2.2.1.2.1) .nil))) (fun l_1 h1 h2 a a1 b b1 told i => g ((), l_1, (h1, h2, ()), (a, a1, ()), (b, b1, ()), told, i, ()))) .nil)
noncomputable def F3 : Fn := ⟨P3, R3, fun k x => S3 k x.1 x.2.1 x.2.2.1⟩
theorem ok3 : FnOK Try.prog 3 F3 := evalF_ok (E := E3) (T := B3) E3_ok mix Try.func3 rfl (by kernel_rfl) (by kernel_rfl) (fun k => by kernel_rfl) (fun k x => by kernel_rfl)
/-! ### 4: 4 foliot/foliotlaw2.SlotsOnce -/
noncomputable abbrev P4 : List PT := [.val ⟨false, (.int .u8), false⟩, .val ⟨false, (.sl 5 (.int .u8)), false⟩]
noncomputable abbrev R4 : List RT := [.val ⟨false, .bool, true⟩]
noncomputable abbrev c4_L29 : Cut := ⟨[0, 1, 5, 6, 7, 8, 15, 16], [.cell (.int .u8), .cell (.sl 5 (.int .u8)), .box 29 [.own 3 (.int .i64), .own 4 .bool], .own 24 (.pair (.int .i64) (.int .i64)), .own 4 .bool, .cell (.int .i64), .cell (.int .i64), .cell (.int .i64)], [], 125⟩
noncomputable def l4_29 (k : Nat) (g9 : Int → (List Int) → (List Int) → (List Bool) → (List (Int × Int)) → (List Bool) → Int → Option ((Bool × Unit) × Unit)) (g24 : Int → (List Int) → (List Int) → (List Bool) → (List (Int × Int)) → (List Bool) → Int → Int → Option ((Bool × Unit) × Unit)) (g29 : Int → (List Int) → (List Int) → (List Bool) → (List (Int × Int)) → (List Bool) → Int → Int → Int → Option ((Bool × Unit) × Unit)) (n4 : Int) (l_4 : List Int) (s6 : List Int) (s7 : List Bool) (told3 : List (Int × Int)) (has3 : List Bool) (i3 : Int) (k_1 : Int) (m : Int) : Option ((Bool × Unit) × Unit) :=
  (bif decide (m < k_1) then
    ix told3 m <|
    ix told3 k_1 <|
    (bif beqD (.pair (.int .i64) (.int .i64)) (rd told3 m (0, 0)) (rd told3 k_1 (0, 0)) then
      some ((false, ()), ())
    else
      g29 n4 l_4 s6 s7 told3 has3 i3 k_1 (IntKind.i64.wrap (m + 1)))
  else
    g24 n4 l_4 s6 s7 told3 has3 i3 (IntKind.i64.wrap (k_1 + 1)))
noncomputable def b4_29 (k : Nat) (g9 : Int → (List Int) → (List Int) → (List Bool) → (List (Int × Int)) → (List Bool) → Int → Option ((Bool × Unit) × Unit)) (g24 : Int → (List Int) → (List Int) → (List Bool) → (List (Int × Int)) → (List Bool) → Int → Int → Option ((Bool × Unit) × Unit)) (g : ((Unit) × Int × (List Int) × ((List Int) × (List Bool) × Unit) × (List (Int × Int)) × (List Bool) × Int × Int × Int × Unit) → Option ((Bool × Unit) × Unit)) (d : (Unit) × Int × (List Int) × ((List Int) × (List Bool) × Unit) × (List (Int × Int)) × (List Bool) × Int × Int × Int × Unit) : Option ((Bool × Unit) × Unit) := l4_29 k g9 g24 (fun n4 l_4 s6 s7 told3 has3 i3 k_1 m => g ((), n4, l_4, (s6, s7, ()), told3, has3, i3, k_1, m, ())) d.2.1 d.2.2.1 d.2.2.2.1.1 d.2.2.2.1.2.1 d.2.2.2.2.1 d.2.2.2.2.2.1 d.2.2.2.2.2.2.1 d.2.2.2.2.2.2.2.1 d.2.2.2.2.2.2.2.2.1
noncomputable def L4_29 (k : Nat) (g9 : Int → (List Int) → (List Int) → (List Bool) → (List (Int × Int)) → (List Bool) → Int → Option ((Bool × Unit) × Unit)) (g24 : Int → (List Int) → (List Int) → (List Bool) → (List (Int × Int)) → (List Bool) → Int → Int → Option ((Bool × Unit) × Unit)) (j : Nat) (n4 : Int) (l_4 : List Int) (s6 : List Int) (s7 : List Bool) (told3 : List (Int × Int)) (has3 : List Bool) (i3 : Int) (k_1 : Int) (m : Int) : Option ((Bool × Unit) × Unit) := iter (R := (Bool × Unit) × Unit) c4_L29 (b4_29 k g9 g24) j ((), n4, l_4, (s6, s7, ()), told3, has3, i3, k_1, m, ())
theorem L4_29_s (k : Nat) (g9 : Int → (List Int) → (List Int) → (List Bool) → (List (Int × Int)) → (List Bool) → Int → Option ((Bool × Unit) × Unit)) (g24 : Int → (List Int) → (List Int) → (List Bool) → (List (Int × Int)) → (List Bool) → Int → Int → Option ((Bool × Unit) × Unit)) (j : Nat) (n4 : Int) (l_4 : List Int) (s6 : List Int) (s7 : List Bool) (told3 : List (Int × Int)) (has3 : List Bool) (i3 : Int) (k_1 : Int) (m : Int) : L4_29 k g9 g24 (j + 1) n4 l_4 s6 s7 told3 has3 i3 k_1 m = l4_29 k g9 g24 (L4_29 k g9 g24 j) n4 l_4 s6 s7 told3 has3 i3 k_1 m := iter_succ _ _ _ _
noncomputable abbrev c4_L24 : Cut := ⟨[0, 1, 5, 6, 7, 8, 15], [.cell (.int .u8), .cell (.sl 5 (.int .u8)), .box 29 [.own 3 (.int .i64), .own 4 .bool], .own 24 (.pair (.int .i64) (.int .i64)), .own 4 .bool, .cell (.int .i64), .cell (.int .i64)], [], 125⟩
noncomputable def l4_24 (k : Nat) (g9 : Int → (List Int) → (List Int) → (List Bool) → (List (Int × Int)) → (List Bool) → Int → Option ((Bool × Unit) × Unit)) (g24 : Int → (List Int) → (List Int) → (List Bool) → (List (Int × Int)) → (List Bool) → Int → Int → Option ((Bool × Unit) × Unit)) (n3 : Int) (l_3 : List Int) (s4 : List Int) (s5 : List Bool) (told2 : List (Int × Int)) (has2 : List Bool) (i2 : Int) (k_ : Int) : Option ((Bool × Unit) × Unit) :=
  (bif decide (k_ < (told2.length : Int)) then
    ix told2 k_ <|
    (S15 k (s4, s5) (rd told2 k_ (0, 0))).bind fun q6 =>
    ix has2 k_ <|
    (bif !(q6.1.1 == (rd has2 k_ false)) then
      some ((false, ()), ())
    else
      L4_29 k g9 g24 k n3 l_3 s4 s5 told2 has2 i2 k_ 0)
  else
    g9 n3 l_3 s4 s5 told2 has2 (IntKind.i64.wrap (i2 + 1)))
noncomputable def b4_24 (k : Nat) (g9 : Int → (List Int) → (List Int) → (List Bool) → (List (Int × Int)) → (List Bool) → Int → Option ((Bool × Unit) × Unit)) (g : ((Unit) × Int × (List Int) × ((List Int) × (List Bool) × Unit) × (List (Int × Int)) × (List Bool) × Int × Int × Unit) → Option ((Bool × Unit) × Unit)) (d : (Unit) × Int × (List Int) × ((List Int) × (List Bool) × Unit) × (List (Int × Int)) × (List Bool) × Int × Int × Unit) : Option ((Bool × Unit) × Unit) := l4_24 k g9 (fun n3 l_3 s4 s5 told2 has2 i2 k_ => g ((), n3, l_3, (s4, s5, ()), told2, has2, i2, k_, ())) d.2.1 d.2.2.1 d.2.2.2.1.1 d.2.2.2.1.2.1 d.2.2.2.2.1 d.2.2.2.2.2.1 d.2.2.2.2.2.2.1 d.2.2.2.2.2.2.2.1
noncomputable def L4_24 (k : Nat) (g9 : Int → (List Int) → (List Int) → (List Bool) → (List (Int × Int)) → (List Bool) → Int → Option ((Bool × Unit) × Unit)) (j : Nat) (n3 : Int) (l_3 : List Int) (s4 : List Int) (s5 : List Bool) (told2 : List (Int × Int)) (has2 : List Bool) (i2 : Int) (k_ : Int) : Option ((Bool × Unit) × Unit) := iter (R := (Bool × Unit) × Unit) c4_L24 (b4_24 k g9) j ((), n3, l_3, (s4, s5, ()), told2, has2, i2, k_, ())
theorem L4_24_s (k : Nat) (g9 : Int → (List Int) → (List Int) → (List Bool) → (List (Int × Int)) → (List Bool) → Int → Option ((Bool × Unit) × Unit)) (j : Nat) (n3 : Int) (l_3 : List Int) (s4 : List Int) (s5 : List Bool) (told2 : List (Int × Int)) (has2 : List Bool) (i2 : Int) (k_ : Int) : L4_24 k g9 (j + 1) n3 l_3 s4 s5 told2 has2 i2 k_ = l4_24 k g9 (L4_24 k g9 j) n3 l_3 s4 s5 told2 has2 i2 k_ := iter_succ _ _ _ _
noncomputable abbrev c4_J15 : Cut := ⟨[0, 1, 5, 6, 7, 8, 9, 10, 11], [.cell (.int .u8), .cell (.sl 5 (.int .u8)), .box 29 [.own 3 (.int .i64), .own 4 .bool], .own 24 (.pair (.int .i64) (.int .i64)), .own 4 .bool, .cell (.int .i64), .box 29 [.own 3 (.int .i64), .own 4 .bool], .box 24 [.cell (.int .i64), .cell (.int .i64)], .cell .bool], [], 125⟩
noncomputable def j4_15 (k : Nat) (g9 : Int → (List Int) → (List Int) → (List Bool) → (List (Int × Int)) → (List Bool) → Int → Option ((Bool × Unit) × Unit)) (n2 : Int) (l_2 : List Int) (s2 : List Int) (s3 : List Bool) (told1 : List (Int × Int)) (has1 : List Bool) (i1 : Int) (t : List Int) (t1 : List Bool) (h : Int) (h1 : Int) (ok : Bool) : Option ((Bool × Unit) × Unit) :=
  (bif ok then
    ap told1 ([(h, h1)] : List (Int × Int)) 16 fun r4 =>
    ap has1 ([true] : List Bool) 1 fun r5 =>
    L4_24 k g9 k n2 l_2 t t1 r4 r5 i1 0
  else
    L4_24 k g9 k n2 l_2 t t1 told1 has1 i1 0)
noncomputable abbrev c4_L9 : Cut := ⟨[0, 1, 5, 6, 7, 8], [.cell (.int .u8), .cell (.sl 5 (.int .u8)), .box 29 [.own 3 (.int .i64), .own 4 .bool], .own 24 (.pair (.int .i64) (.int .i64)), .own 4 .bool, .cell (.int .i64)], [], 125⟩
noncomputable def l4_9 (k : Nat) (g9 : Int → (List Int) → (List Int) → (List Bool) → (List (Int × Int)) → (List Bool) → Int → Option ((Bool × Unit) × Unit)) (n1 : Int) (l_1 : List Int) (s : List Int) (s1 : List Bool) (told : List (Int × Int)) (has : List Bool) (i : Int) : Option ((Bool × Unit) × Unit) :=
  (bif decide (i < (l_1.length : Int)) then
    ix l_1 i <|
    (bif (Int.tmod (rd l_1 i 0) 2) == 0 then
      (S10 k (s, s1)).bind fun q2 =>
      (S17 k (s, s1)).bind fun q3 =>
      (bif !(q2.1.2.2.1 == (decide (q3.1.1 < (IntKind.i64.wrap (Int.tmod n1 9))))) then
        some ((false, ()), ())
      else
        j4_15 k g9 n1 l_1 s s1 told has i q2.1.1.1 q2.1.1.2 q2.1.2.1.1 q2.1.2.1.2 q2.1.2.2.1)
    else
      (bif (told.length : Int) == 0 then
        (S10 k (s, s1)).bind fun q7 =>
        (S17 k (s, s1)).bind fun q8 =>
        (bif !(q7.1.2.2.1 == (decide (q8.1.1 < (IntKind.i64.wrap (Int.tmod n1 9))))) then
          some ((false, ()), ())
        else
          j4_15 k g9 n1 l_1 s s1 told has i q7.1.1.1 q7.1.1.2 q7.1.2.1.1 q7.1.2.1.2 q7.1.2.2.1)
      else
        ix l_1 i <|
        nz (told.length : Int) <|
        ix told (Int.tmod (IntKind.i64.wrap (Int.tdiv (IntKind.i64.wrap (rd l_1 i 0)) 2)) (told.length : Int)) <|
        (S12 k (s, s1) (rd told (Int.tmod (IntKind.i64.wrap (Int.tdiv (IntKind.i64.wrap (rd l_1 i 0)) 2)) (told.length : Int)) (0, 0))).bind fun q9 =>
        ix has (Int.tmod (IntKind.i64.wrap (Int.tdiv (IntKind.i64.wrap (rd l_1 i 0)) 2)) (told.length : Int)) <|
        (bif !(q9.1.2.1 == (rd has (Int.tmod (IntKind.i64.wrap (Int.tdiv (IntKind.i64.wrap (rd l_1 i 0)) 2)) (told.length : Int)) false)) then
          some ((false, ()), ())
        else
          ix has (Int.tmod (IntKind.i64.wrap (Int.tdiv (IntKind.i64.wrap (rd l_1 i 0)) 2)) (told.length : Int)) <|
          L4_24 k g9 k n1 l_1 q9.1.1.1 q9.1.1.2 told (upd has (Int.tmod (IntKind.i64.wrap (Int.tdiv (IntKind.i64.wrap (rd l_1 i 0)) 2)) (told.length : Int)) false) i 0)))
  else
    some ((true, ()), ()))
noncomputable def b4_9 (k : Nat) (g : ((Unit) × Int × (List Int) × ((List Int) × (List Bool) × Unit) × (List (Int × Int)) × (List Bool) × Int × Unit) → Option ((Bool × Unit) × Unit)) (d : (Unit) × Int × (List Int) × ((List Int) × (List Bool) × Unit) × (List (Int × Int)) × (List Bool) × Int × Unit) : Option ((Bool × Unit) × Unit) := l4_9 k (fun n1 l_1 s s1 told has i => g ((), n1, l_1, (s, s1, ()), told, has, i, ())) d.2.1 d.2.2.1 d.2.2.2.1.1 d.2.2.2.1.2.1 d.2.2.2.2.1 d.2.2.2.2.2.1 d.2.2.2.2.2.2.1
noncomputable def L4_9 (k : Nat) (j : Nat) (n1 : Int) (l_1 : List Int) (s : List Int) (s1 : List Bool) (told : List (Int × Int)) (has : List Bool) (i : Int) : Option ((Bool × Unit) × Unit) := iter (R := (Bool × Unit) × Unit) c4_L9 (b4_9 k) j ((), n1, l_1, (s, s1, ()), told, has, i, ())
theorem L4_9_s (k : Nat) (j : Nat) (n1 : Int) (l_1 : List Int) (s : List Int) (s1 : List Bool) (told : List (Int × Int)) (has : List Bool) (i : Int) : L4_9 k (j + 1) n1 l_1 s s1 told has i = l4_9 k (L4_9 k j) n1 l_1 s s1 told has i := iter_succ _ _ _ _
noncomputable def S4 (k : Nat) (n : Int) (l_ : List Int) : Option ((Bool × Unit) × Unit) :=
  (S7 k).bind fun q0 =>
  (bif !q0.1.1 then
    some ((false, ()), ())
  else
    (bif decide ((l_.length : Int) > 60) then
      some ((true, ()), ())
    else
      (S8 k (IntKind.i64.wrap (Int.tmod n 9))).bind fun q1 =>
      L4_9 k k n l_ q1.1.1.1 q1.1.1.2 ([] : List (Int × Int)) ([] : List Bool) 0))
noncomputable def E4 : Env := tab.env (lk [(7, F7), (8, F8), (10, F10), (12, F12), (15, F15), (17, F17)]) (hintL [(6, 2), (7, 2)])
theorem E4_ok : EnvOK Try.prog E4 := envOK_of tabOK _ _ (allFn_lk (l := [(7, F7), (8, F8), (10, F10), (12, F12), (15, F15), (17, F17)]) ⟨ok7, ok8, ok10, ok12, ok15, ok17, trivial⟩)
noncomputable def B4 (k : Nat) : Tbl (RD R4 × MD P4) := (.loop 9 c4_L9 (b4_9 k) (fun g => (fun (g9 : Int → (List Int) → (List Int) → (List Bool) → (List (Int × Int)) → (List Bool) → Int → Option ((Bool × Unit) × Unit)) => (.loop 24 c4_L24 (b4_24 k g9) (fun g => (fun (g24 : Int → (List Int) → (List Int) → (List Bool) → (List (Int × Int)) → (List Bool) → Int → Int → Option ((Bool × Unit) × Unit)) => (.loop 29 c4_L29 (b4_29 k g9 g24) (fun g => .nil) .nil)) (fun n3 l_3 s4 s5 told2 has2 i2 k_ => g ((), n3, l_3, (s4, s5, ()), told2, has2, i2, k_, ()))) (.join 15 c4_J15 (fun d => j4_15 k g9 d.2.1 d.2.2.1 d.2.2.2.1.1 d.2.2.2.1.2.1 d.2.2.2.2.1 d.2.2.2.2.2.1 d.2.2.2.2.2.2.1 d.2.2.2.2.2.2.2.1.1 d.2.2.2.2.2.2.2.1.2.1 d.2.2.2.2.2.2.2.2.1.1 d.2.2.2.2.2.2.2.2.1.2.1 d.2.2.2.2.2.2.2.2.2.1) .nil))) (fun n1 l_1 s s1 told has i => g ((), n1, l_1, (s, s1, ()), told, has, i, ()))) .nil)
noncomputable def F4 : Fn := ⟨P4, R4, fun k x => S4 k x.1 x.2.1⟩
theorem ok4 : FnOK Try.prog 4 F4 := evalF_ok (E := E4) (T := B4) E4_ok mix Try.func4 rfl (by kernel_rfl) (by kernel_rfl) (fun k => by kernel_rfl) (fun k x => by kernel_rfl)
/-! ### 5: 5 foliot/foliotlaw2.SlotsForms -/
noncomputable abbrev P5 : List PT := []
noncomputable abbrev R5 : List RT := [.val ⟨false, .bool, true⟩]
noncomputable abbrev c5_L7 : Cut := ⟨[1, 2, 4], [.box 29 [.own 3 (.int .i64), .own 4 .bool], .box 24 [.cell (.int .i64), .cell (.int .i64)], .cell (.int .i64)], [], 144⟩
noncomputable def l5_7 (k : Nat) (g7 : (List Int) → (List Bool) → Int → Int → Int → Option ((Bool × Unit) × Unit)) (s : List Int) (s1 : List Bool) (h : Int) (h1 : Int) (i : Int) : Option ((Bool × Unit) × Unit) :=
  (bif decide (i < 64) then
    (S10 k (s, s1)).bind fun q2 =>
    (bif !q2.1.2.2.1 then
      some ((false, ()), ())
    else
      (bif q2.1.2.1.1 != i then
        some ((false, ()), ())
      else
        (bif q2.1.2.1.2 != 1 then
          some ((false, ()), ())
        else
          g7 q2.1.1.1 q2.1.1.2 q2.1.2.1.1 q2.1.2.1.2 (IntKind.i64.wrap (i + 1)))))
  else
    (S10 k (s, s1)).bind fun q3 =>
    (S12 k (s, s1) (5, 1)).bind fun q4 =>
    (S12 k q4.1.1 (5, 1)).bind fun q5 =>
    (S12 k (s, s1) (64, 1)).bind fun q6 =>
    (S12 k (s, s1) ((-1), 1)).bind fun q7 =>
    (S12 k (s, s1) (5, 0)).bind fun q8 =>
    (S10 k q4.1.1).bind fun q9 =>
    (bif !q3.1.2.2.1 then
      (bif beqD (.pair (.int .i64) (.int .i64)) q3.1.2.1 (0, 0) then
        (S17 k q3.1.1).bind fun q10 =>
        (bif q10.1.1 == 64 then
          (bif q4.1.2.1 then
            (bif !q5.1.2.1 then
              (bif !q6.1.2.1 then
                (bif !q7.1.2.1 then
                  (bif !q8.1.2.1 then
                    (bif q9.1.2.2.1 then
                      (bif beqD (.pair (.int .i64) (.int .i64)) q9.1.2.1 (5, 2) then
                        (S17 k q9.1.1).bind fun q11 =>
                        (bif q11.1.1 == 64 then
                          (S8 k (-1)).bind fun q12 =>
                          (S17 k q12.1.1).bind fun q13 =>
                          (bif q13.1.1 == 0 then
                            (S8 k 3).bind fun q14 =>
                            some (((q14.1.1.1.length : Int) == 3, ()), ())
                          else
                            some ((false, ()), ()))
                        else
                          some ((false, ()), ()))
                      else
                        some ((false, ()), ()))
                    else
                      some ((false, ()), ()))
                  else
                    some ((false, ()), ()))
                else
                  some ((false, ()), ()))
              else
                some ((false, ()), ()))
            else
              some ((false, ()), ()))
          else
            some ((false, ()), ()))
        else
          some ((false, ()), ()))
      else
        some ((false, ()), ()))
    else
      some ((false, ()), ())))
noncomputable def b5_7 (k : Nat) (g : ((Unit) × ((List Int) × (List Bool) × Unit) × (Int × Int × Unit) × Int × Unit) → Option ((Bool × Unit) × Unit)) (d : (Unit) × ((List Int) × (List Bool) × Unit) × (Int × Int × Unit) × Int × Unit) : Option ((Bool × Unit) × Unit) := l5_7 k (fun s s1 h h1 i => g ((), (s, s1, ()), (h, h1, ()), i, ())) d.2.1.1 d.2.1.2.1 d.2.2.1.1 d.2.2.1.2.1 d.2.2.2.1
noncomputable def L5_7 (k : Nat) (j : Nat) (s : List Int) (s1 : List Bool) (h : Int) (h1 : Int) (i : Int) : Option ((Bool × Unit) × Unit) := iter (R := (Bool × Unit) × Unit) c5_L7 (b5_7 k) j ((), (s, s1, ()), (h, h1, ()), i, ())
theorem L5_7_s (k : Nat) (j : Nat) (s : List Int) (s1 : List Bool) (h : Int) (h1 : Int) (i : Int) : L5_7 k (j + 1) s s1 h h1 i = l5_7 k (L5_7 k j) s s1 h h1 i := iter_succ _ _ _ _
noncomputable def S5 (k : Nat) : Option ((Bool × Unit) × Unit) :=
  (S7 k).bind fun q0 =>
  (bif !q0.1.1 then
    some ((false, ()), ())
  else
    (S8 k 100).bind fun q1 =>
    L5_7 k k q1.1.1.1 q1.1.1.2 0 0 0)
noncomputable def E5 : Env := tab.env (lk [(7, F7), (8, F8), (10, F10), (12, F12), (17, F17)]) (hintL [])
theorem E5_ok : EnvOK Try.prog E5 := envOK_of tabOK _ _ (allFn_lk (l := [(7, F7), (8, F8), (10, F10), (12, F12), (17, F17)]) ⟨ok7, ok8, ok10, ok12, ok17, trivial⟩)
noncomputable def B5 (k : Nat) : Tbl (RD R5 × MD P5) := (.loop 7 c5_L7 (b5_7 k) (fun g => .nil) .nil)
noncomputable def F5 : Fn := ⟨P5, R5, fun k x => S5 k ⟩
theorem ok5 : FnOK Try.prog 5 F5 := evalF_ok (E := E5) (T := B5) E5_ok mix Try.func5 rfl (by kernel_rfl) (by kernel_rfl) (fun k => by kernel_rfl) (fun k x => by kernel_rfl)
end Go.Proofs.Ytkhahfpjnmebdaa.Ab
