import Derived.Test.YtkhahfpjnmebdaaAbLib
/- Contracts, printed by this session's own program gen.py. -/
set_option linter.unusedVariables false
set_option maxRecDepth 100000
namespace Go.Proofs.Ytkhahfpjnmebdaa.Ab
open Go.RowKit Go.Proofs.YtkhahfpjnmebdaaW.PrintWords
/-! ### 8: 8 foliot/slots.New -/
noncomputable abbrev P8 : List PT := [.val ⟨false, (.int .i64), false⟩]
noncomputable abbrev R8 : List RT := [.val ⟨true, (.pair (.sl 3 (.int .i64)) (.sl 4 .bool)), true⟩]
noncomputable def S8 (k : Nat) (n : Int) : Option ((((List Int) × List Bool) × Unit) × Unit) :=
  mk (mn (mx n 0) 64) (mn (mx n 0) 64) 8 <|
  mk (mn (mx n 0) 64) (mn (mx n 0) 64) 1 <|
  some (((List.replicate (mn (mx n 0) 64).toNat 0, List.replicate (mn (mx n 0) 64).toNat false), ()), ())
noncomputable def E8 : Env := tab.env (lk []) (hintL [])
theorem E8_ok : EnvOK Try.prog E8 := envOK_of tabOK _ _ (fun f F h => by cases h)
noncomputable def B8 (k : Nat) : Tbl (RD R8 × MD P8) := .nil
noncomputable def F8 : Fn := ⟨P8, R8, fun k x => S8 k x.1⟩
theorem ok8 : FnOK Try.prog 8 F8 := evalF_ok (E := E8) (T := B8) E8_ok mix Try.func8 rfl (by kernel_rfl) (by kernel_rfl) (fun k => by kernel_rfl) (fun k x => by kernel_rfl)
/-! ### 24: 24 slices.Clone[[]int,int] -/
noncomputable abbrev P24 : List PT := clonePs 3 (.int .i64)
noncomputable abbrev R24 : List RT := cloneRs 3 (.int .i64)
noncomputable def S24 (k : Nat) (xs : List Int) : Option (((List Int) × Unit) × Unit) := cloneSem 8 3 (.int .i64) k (xs, ())
noncomputable def F24 : Fn := ⟨P24, R24, cloneSem 8 3 (.int .i64)⟩
noncomputable def E24 : Env := tab.env (fun _ => none) (fun _ => 0)
theorem E24_ok : EnvOK Try.prog E24 := envOK_of tabOK _ _ (fun f F h => by cases h)
theorem ok24 : FnOK Try.prog 24 F24 := clone_ok E24_ok mix Try.func24 rfl (by kernel_rfl) (by kernel_rfl) (fun k => by kernel_rfl) (fun k xs => by kernel_rfl) (fun k xs => by kernel_rfl)
/-! ### 25: 25 slices.Clone[[]bool,bool] -/
noncomputable abbrev P25 : List PT := clonePs 4 .bool
noncomputable abbrev R25 : List RT := cloneRs 4 .bool
noncomputable def S25 (k : Nat) (xs : List Bool) : Option (((List Bool) × Unit) × Unit) := cloneSem 1 4 .bool k (xs, ())
noncomputable def F25 : Fn := ⟨P25, R25, cloneSem 1 4 .bool⟩
noncomputable def E25 : Env := tab.env (fun _ => none) (fun _ => 0)
theorem E25_ok : EnvOK Try.prog E25 := envOK_of tabOK _ _ (fun f F h => by cases h)
theorem ok25 : FnOK Try.prog 25 F25 := clone_ok E25_ok mix Try.func25 rfl (by kernel_rfl) (by kernel_rfl) (fun k => by kernel_rfl) (fun k xs => by kernel_rfl) (fun k xs => by kernel_rfl)
/-! ### 18: 18 foliot/slots.twin -/
noncomputable abbrev P18 : List PT := [.val ⟨true, (.pair (.sl 3 (.int .i64)) (.sl 4 .bool)), false⟩]
noncomputable abbrev R18 : List RT := [.val ⟨true, (.pair (.sl 3 (.int .i64)) (.sl 4 .bool)), true⟩]
noncomputable def S18 (k : Nat) (s : (List Int) × List Bool) : Option ((((List Int) × List Bool) × Unit) × Unit) :=
  (S24 k s.1).bind fun q0 =>
  (S25 k s.2).bind fun q1 =>
  some (((q0.1.1, q1.1.1), ()), ())
noncomputable def E18 : Env := tab.env (lk [(24, F24), (25, F25)]) (hintL [])
theorem E18_ok : EnvOK Try.prog E18 := envOK_of tabOK _ _ (allFn_lk (l := [(24, F24), (25, F25)]) ⟨ok24, ok25, trivial⟩)
noncomputable def B18 (k : Nat) : Tbl (RD R18 × MD P18) := .nil
noncomputable def F18 : Fn := ⟨P18, R18, fun k x => S18 k x.1⟩
theorem ok18 : FnOK Try.prog 18 F18 := evalF_ok (E := E18) (T := B18) E18_ok mix Try.func18 rfl (by kernel_rfl) (by kernel_rfl) (fun k => by kernel_rfl) (fun k x => by kernel_rfl)
/-! ### 20: 20 foliot/slots.places -/
noncomputable abbrev P20 : List PT := [.val ⟨true, (.pair (.sl 3 (.int .i64)) (.sl 4 .bool)), false⟩]
noncomputable abbrev R20 : List RT := [.val ⟨false, (.int .i64), true⟩]
noncomputable def S20 (k : Nat) (s : (List Int) × List Bool) : Option ((Int × Unit) × Unit) :=
  some ((mn (s.1.length : Int) (s.2.length : Int), ()), ())
noncomputable def E20 : Env := tab.env (lk []) (hintL [])
theorem E20_ok : EnvOK Try.prog E20 := envOK_of tabOK _ _ (fun f F h => by cases h)
noncomputable def B20 (k : Nat) : Tbl (RD R20 × MD P20) := .nil
noncomputable def F20 : Fn := ⟨P20, R20, fun k x => S20 k x.1⟩
theorem ok20 : FnOK Try.prog 20 F20 := evalF_ok (E := E20) (T := B20) E20_ok mix Try.func20 rfl (by kernel_rfl) (by kernel_rfl) (fun k => by kernel_rfl) (fun k x => by kernel_rfl)
/-! ### 19: 19 slices.Index[[]bool,bool] -/
noncomputable abbrev P19 : List PT := [.val ⟨false, (.sl 4 .bool), false⟩, .val ⟨false, .bool, false⟩]
noncomputable abbrev R19 : List RT := [.val ⟨false, (.int .i64), true⟩]
noncomputable abbrev c19_L2 : Cut := ⟨[0, 1, 7, 8], [.cell (.sl 4 .bool), .cell .bool, .cell (.int .i64), .cell (.int .i64)], [], 19⟩
noncomputable def l19_2 (k : Nat) (g2 : (List Bool) → Bool → Int → Int → Option ((Int × Unit) × Unit)) (s1 : List Bool) (v1 : Bool) (t7 : Int) (t8 : Int) : Option ((Int × Unit) × Unit) :=
  (bif decide (t8 < t7) then
    ix s1 t8 <|
    (bif v1 == (rd s1 t8 false) then
      some ((t8, ()), ())
    else
      g2 s1 v1 t7 (IntKind.i64.wrap (t8 + 1)))
  else
    some (((-1), ()), ()))
noncomputable def b19_2 (k : Nat) (g : ((Unit) × (List Bool) × Bool × Int × Int × Unit) → Option ((Int × Unit) × Unit)) (d : (Unit) × (List Bool) × Bool × Int × Int × Unit) : Option ((Int × Unit) × Unit) := l19_2 k (fun s1 v1 t7 t8 => g ((), s1, v1, t7, t8, ())) d.2.1 d.2.2.1 d.2.2.2.1 d.2.2.2.2.1
noncomputable def L19_2 (k : Nat) (j : Nat) (s1 : List Bool) (v1 : Bool) (t7 : Int) (t8 : Int) : Option ((Int × Unit) × Unit) := iter (R := (Int × Unit) × Unit) c19_L2 (b19_2 k) j ((), s1, v1, t7, t8, ())
theorem L19_2_s (k : Nat) (j : Nat) (s1 : List Bool) (v1 : Bool) (t7 : Int) (t8 : Int) : L19_2 k (j + 1) s1 v1 t7 t8 = l19_2 k (fun s1 v1 t7 t8 => L19_2 k j s1 v1 t7 t8) s1 v1 t7 t8 := iter_succ _ _ _ _
noncomputable def S19 (k : Nat) (s : List Bool) (v : Bool) : Option ((Int × Unit) × Unit) :=
  L19_2 k k s v (s.length : Int) 0
noncomputable def E19 : Env := tab.env (lk []) (hintL [])
theorem E19_ok : EnvOK Try.prog E19 := envOK_of tabOK _ _ (fun f F h => by cases h)
noncomputable def B19 (k : Nat) : Tbl (RD R19 × MD P19) := (.loop 2 c19_L2 (b19_2 k) (fun g => .nil) .nil)
noncomputable def F19 : Fn := ⟨P19, R19, fun k x => S19 k x.1 x.2.1⟩
theorem ok19 : FnOK Try.prog 19 F19 := evalF_ok (E := E19) (T := B19) E19_ok mix Try.func19 rfl (by kernel_rfl) (by kernel_rfl) (fun k => by kernel_rfl) (fun k x => by kernel_rfl)
/-! ### 10: 10 foliot/slots.Take -/
noncomputable abbrev P10 : List PT := [.val ⟨true, (.pair (.sl 3 (.int .i64)) (.sl 4 .bool)), false⟩]
noncomputable abbrev R10 : List RT := [.val ⟨true, (.pair (.sl 3 (.int .i64)) (.sl 4 .bool)), true⟩, .val ⟨true, (.pair (.int .i64) (.int .i64)), true⟩, .val ⟨false, .bool, true⟩]
noncomputable def S10 (k : Nat) (s : (List Int) × List Bool) : Option ((((List Int) × List Bool) × (Int × Int) × Bool × Unit) × Unit) :=
  (S18 k s).bind fun q0 =>
  (S20 k q0.1.1).bind fun q1 =>
  sx q0.1.1.2 0 q1.1.1 <|
  (S19 k (sub q0.1.1.2 0 q1.1.1) false).bind fun q2 =>
  (bif decide (q2.1.1 < 0) then
    some ((q0.1.1, (0, 0), false, ()), ())
  else
    ix q0.1.1.1 q2.1.1 <|
    ix q0.1.1.1 q2.1.1 <|
    ix q0.1.1.2 q2.1.1 <|
    ix (upd q0.1.1.1 q2.1.1 (IntKind.i64.wrap ((rd q0.1.1.1 q2.1.1 0) + 1))) q2.1.1 <|
    some (((upd q0.1.1.1 q2.1.1 (IntKind.i64.wrap ((rd q0.1.1.1 q2.1.1 0) + 1)), upd q0.1.1.2 q2.1.1 true), (q2.1.1, rd (upd q0.1.1.1 q2.1.1 (IntKind.i64.wrap ((rd q0.1.1.1 q2.1.1 0) + 1))) q2.1.1 0), true, ()), ()))
noncomputable def E10 : Env := tab.env (lk [(18, F18), (19, F19), (20, F20)]) (hintL [])
theorem E10_ok : EnvOK Try.prog E10 := envOK_of tabOK _ _ (allFn_lk (l := [(18, F18), (19, F19), (20, F20)]) ⟨ok18, ok19, ok20, trivial⟩)
noncomputable def B10 (k : Nat) : Tbl (RD R10 × MD P10) := .nil
noncomputable def F10 : Fn := ⟨P10, R10, fun k x => S10 k x.1⟩
theorem ok10 : FnOK Try.prog 10 F10 := evalF_ok (E := E10) (T := B10) E10_ok mix Try.func10 rfl (by kernel_rfl) (by kernel_rfl) (fun k => by kernel_rfl) (fun k x => by kernel_rfl)
/-! ### 23: 23 foliot/slots.handles -/
noncomputable abbrev P23 : List PT := [.val ⟨true, (.pair (.sl 3 (.int .i64)) (.sl 4 .bool)), false⟩]
noncomputable abbrev R23 : List RT := [.pv (.mp 55 true (.pair (.int .i64) (.int .i64)) false .bool)]
noncomputable abbrev c23_L3 : Cut := ⟨[1, 3, 7, 8], [.box 29 [.cell (.sl 3 (.int .i64)), .cell (.sl 4 .bool)], .mp 55 true (.pair (.int .i64) (.int .i64)) false .bool, .cell (.int .i64), .cell (.int .i64)], [], 26⟩
noncomputable def l23_3 (k : Nat) (g3 : (List Int) → (List Bool) → (List ((Int × Int) × Bool)) → Int → Int → Option (((List ((Int × Int) × Bool)) × Unit) × Unit)) (s1 : List Int) (s2 : List Bool) (all : List ((Int × Int) × Bool)) (t7 : Int) (t8 : Int) : Option (((List ((Int × Int) × Bool)) × Unit) × Unit) :=
  (bif decide (t8 < t7) then
    ix s2 t8 <|
    (bif rd s2 t8 false then
      ix s1 t8 <|
      g3 s1 s2 (updD (.pair (.int .i64) (.int .i64)) .bool (t8, rd s1 t8 0) true all) t7 (IntKind.i64.wrap (t8 + 1))
    else
      g3 s1 s2 all t7 (IntKind.i64.wrap (t8 + 1)))
  else
    some ((all, ()), ()))
noncomputable def b23_3 (k : Nat) (g : ((Unit) × ((List Int) × (List Bool) × Unit) × (List ((Int × Int) × Bool)) × Int × Int × Unit) → Option (((List ((Int × Int) × Bool)) × Unit) × Unit)) (d : (Unit) × ((List Int) × (List Bool) × Unit) × (List ((Int × Int) × Bool)) × Int × Int × Unit) : Option (((List ((Int × Int) × Bool)) × Unit) × Unit) := l23_3 k (fun s1 s2 all t7 t8 => g ((), (s1, s2, ()), all, t7, t8, ())) d.2.1.1 d.2.1.2.1 d.2.2.1 d.2.2.2.1 d.2.2.2.2.1
noncomputable def L23_3 (k : Nat) (j : Nat) (s1 : List Int) (s2 : List Bool) (all : List ((Int × Int) × Bool)) (t7 : Int) (t8 : Int) : Option (((List ((Int × Int) × Bool)) × Unit) × Unit) := iter (R := ((List ((Int × Int) × Bool)) × Unit) × Unit) c23_L3 (b23_3 k) j ((), (s1, s2, ()), all, t7, t8, ())
theorem L23_3_s (k : Nat) (j : Nat) (s1 : List Int) (s2 : List Bool) (all : List ((Int × Int) × Bool)) (t7 : Int) (t8 : Int) : L23_3 k (j + 1) s1 s2 all t7 t8 = l23_3 k (fun s1 s2 all t7 t8 => L23_3 k j s1 s2 all t7 t8) s1 s2 all t7 t8 := iter_succ _ _ _ _
noncomputable def S23 (k : Nat) (s : (List Int) × List Bool) : Option (((List ((Int × Int) × Bool)) × Unit) × Unit) :=
  (S20 k s).bind fun q0 =>
  L23_3 k k s.1 s.2 [] q0.1.1 0
noncomputable def E23 : Env := tab.env (lk [(20, F20)]) (hintL [])
theorem E23_ok : EnvOK Try.prog E23 := envOK_of tabOK _ _ (allFn_lk (l := [(20, F20)]) ⟨ok20, trivial⟩)
noncomputable def B23 (k : Nat) : Tbl (RD R23 × MD P23) := (.loop 3 c23_L3 (b23_3 k) (fun g => .nil) .nil)
noncomputable def F23 : Fn := ⟨P23, R23, fun k x => S23 k x.1⟩
theorem ok23 : FnOK Try.prog 23 F23 := evalF_ok (E := E23) (T := B23) E23_ok mix Try.func23 rfl (by kernel_rfl) (by kernel_rfl) (fun k => by kernel_rfl) (fun k x => by kernel_rfl)
/-! ### 15: 15 foliot/slots.Has -/
noncomputable abbrev P15 : List PT := [.val ⟨true, (.pair (.sl 3 (.int .i64)) (.sl 4 .bool)), false⟩, .val ⟨true, (.pair (.int .i64) (.int .i64)), false⟩]
noncomputable abbrev R15 : List RT := [.val ⟨false, .bool, true⟩]
noncomputable def S15 (k : Nat) (s : (List Int) × List Bool) (h : Int × Int) : Option ((Bool × Unit) × Unit) :=
  (S23 k s).bind fun q0 =>
  some ((mget (.pair (.int .i64) (.int .i64)) .bool h q0.1.1 false, ()), ())
noncomputable def E15 : Env := tab.env (lk [(23, F23)]) (hintL [])
theorem E15_ok : EnvOK Try.prog E15 := envOK_of tabOK _ _ (allFn_lk (l := [(23, F23)]) ⟨ok23, trivial⟩)
noncomputable def B15 (k : Nat) : Tbl (RD R15 × MD P15) := .nil
noncomputable def F15 : Fn := ⟨P15, R15, fun k x => S15 k x.1 x.2.1⟩
theorem ok15 : FnOK Try.prog 15 F15 := evalF_ok (E := E15) (T := B15) E15_ok mix Try.func15 rfl (by kernel_rfl) (by kernel_rfl) (fun k => by kernel_rfl) (fun k x => by kernel_rfl)
/-! ### 12: 12 foliot/slots.Free -/
noncomputable abbrev P12 : List PT := [.val ⟨true, (.pair (.sl 3 (.int .i64)) (.sl 4 .bool)), false⟩, .val ⟨true, (.pair (.int .i64) (.int .i64)), false⟩]
noncomputable abbrev R12 : List RT := [.val ⟨true, (.pair (.sl 3 (.int .i64)) (.sl 4 .bool)), true⟩, .val ⟨false, .bool, true⟩]
noncomputable def S12 (k : Nat) (s : (List Int) × List Bool) (h : Int × Int) : Option ((((List Int) × List Bool) × Bool × Unit) × Unit) :=
  (S18 k s).bind fun q0 =>
  (S15 k q0.1.1 h).bind fun q1 =>
  (bif !q1.1.1 then
    some ((q0.1.1, false, ()), ())
  else
    ix q0.1.1.2 h.1 <|
    some (((q0.1.1.1, upd q0.1.1.2 h.1 false), true, ()), ()))
noncomputable def E12 : Env := tab.env (lk [(15, F15), (18, F18)]) (hintL [])
theorem E12_ok : EnvOK Try.prog E12 := envOK_of tabOK _ _ (allFn_lk (l := [(15, F15), (18, F18)]) ⟨ok15, ok18, trivial⟩)
noncomputable def B12 (k : Nat) : Tbl (RD R12 × MD P12) := .nil
noncomputable def F12 : Fn := ⟨P12, R12, fun k x => S12 k x.1 x.2.1⟩
theorem ok12 : FnOK Try.prog 12 F12 := evalF_ok (E := E12) (T := B12) E12_ok mix Try.func12 rfl (by kernel_rfl) (by kernel_rfl) (fun k => by kernel_rfl) (fun k x => by kernel_rfl)
/-! ### 17: 17 foliot/slots.Len -/
noncomputable abbrev P17 : List PT := [.val ⟨true, (.pair (.sl 3 (.int .i64)) (.sl 4 .bool)), false⟩]
noncomputable abbrev R17 : List RT := [.val ⟨false, (.int .i64), true⟩]
noncomputable def S17 (k : Nat) (s : (List Int) × List Bool) : Option ((Int × Unit) × Unit) :=
  (S23 k s).bind fun q0 =>
  some (((q0.1.1.length : Int), ()), ())
noncomputable def E17 : Env := tab.env (lk [(23, F23)]) (hintL [])
theorem E17_ok : EnvOK Try.prog E17 := envOK_of tabOK _ _ (allFn_lk (l := [(23, F23)]) ⟨ok23, trivial⟩)
noncomputable def B17 (k : Nat) : Tbl (RD R17 × MD P17) := .nil
noncomputable def F17 : Fn := ⟨P17, R17, fun k x => S17 k x.1⟩
theorem ok17 : FnOK Try.prog 17 F17 := evalF_ok (E := E17) (T := B17) E17_ok mix Try.func17 rfl (by kernel_rfl) (by kernel_rfl) (fun k => by kernel_rfl) (fun k x => by kernel_rfl)
/-! ### 7: 7 foliot/foliotlaw2.begun -/
noncomputable abbrev P7 : List PT := []
noncomputable abbrev R7 : List RT := [.val ⟨false, .bool, true⟩]
noncomputable def S7 (k : Nat) : Option ((Bool × Unit) × Unit) :=
  (S8 k 2).bind fun q0 =>
  (S10 k q0.1.1).bind fun q1 =>
  (S12 k q1.1.1 q1.1.2.1).bind fun q2 =>
  (S10 k q2.1.1).bind fun q3 =>
  (bif q1.1.2.2.1 then
    (bif beqD (.pair (.int .i64) (.int .i64)) q1.1.2.1 (0, 1) then
      (bif q2.1.2.1 then
        (bif q3.1.2.2.1 then
          (bif beqD (.pair (.int .i64) (.int .i64)) q3.1.2.1 (0, 2) then
            (S15 k q3.1.1 q3.1.2.1).bind fun q4 =>
            (bif q4.1.1 then
              (S15 k q3.1.1 q1.1.2.1).bind fun q5 =>
              (bif !q5.1.1 then
                (S17 k q3.1.1).bind fun q6 =>
                some ((q6.1.1 == 1, ()), ())
              else
                some ((false, ()), ()))
            else
              some ((false, ()), ()))
          else
            some ((false, ()), ()))
        else
          some ((false, ()), ()))
      else
        some ((false, ()), ()))
    else
      some ((false, ()), ()))
  else
    some ((false, ()), ()))
noncomputable def E7 : Env := tab.env (lk [(8, F8), (10, F10), (12, F12), (15, F15), (17, F17)]) (hintL [])
theorem E7_ok : EnvOK Try.prog E7 := envOK_of tabOK _ _ (allFn_lk (l := [(8, F8), (10, F10), (12, F12), (15, F15), (17, F17)]) ⟨ok8, ok10, ok12, ok15, ok17, trivial⟩)
noncomputable def B7 (k : Nat) : Tbl (RD R7 × MD P7) := .nil
noncomputable def F7 : Fn := ⟨P7, R7, fun k x => S7 k ⟩
theorem ok7 : FnOK Try.prog 7 F7 := evalF_ok (E := E7) (T := B7) E7_ok mix Try.func7 rfl (by kernel_rfl) (by kernel_rfl) (fun k => by kernel_rfl) (fun k x => by kernel_rfl)
/-! ### 5: 5 foliot/foliotlaw2.SlotsForms -/
noncomputable abbrev P5 : List PT := []
noncomputable abbrev R5 : List RT := [.val ⟨false, .bool, true⟩]
noncomputable abbrev c5_L7 : Cut := ⟨[1, 2, 4], [.box 29 [.own 3 (.int .i64), .own 4 .bool], .box 24 [.cell (.int .i64), .cell (.int .i64)], .cell (.int .i64)], [], 144⟩
noncomputable def l5_7 (k : Nat) (g7 : (List Int) → (List Bool) → Int → Int → Int → Option ((Bool × Unit) × Unit)) (s : List Int) (s1 : List Bool) (h : Int) (h1 : Int) (i : Int) : Option ((Bool × Unit) × Unit) :=
  (bif decide (i < 64) then
    (S10 k (s, s1)).bind fun q2 =>
    (bif !q2.1.2.2.1 then
      some ((false, ()), ())
    else
      (bif q2.1.2.1.1 != i then
        some ((false, ()), ())
      else
        (bif q2.1.2.1.2 != 1 then
          some ((false, ()), ())
        else
          g7 q2.1.1.1 q2.1.1.2 q2.1.2.1.1 q2.1.2.1.2 (IntKind.i64.wrap (i + 1)))))
  else
    (S10 k (s, s1)).bind fun q3 =>
    (S12 k (s, s1) (5, 1)).bind fun q4 =>
    (S12 k q4.1.1 (5, 1)).bind fun q5 =>
    (S12 k (s, s1) (64, 1)).bind fun q6 =>
    (S12 k (s, s1) ((-1), 1)).bind fun q7 =>
    (S12 k (s, s1) (5, 0)).bind fun q8 =>
    (S10 k q4.1.1).bind fun q9 =>
    (bif !q3.1.2.2.1 then
      (bif beqD (.pair (.int .i64) (.int .i64)) q3.1.2.1 (0, 0) then
        (S17 k q3.1.1).bind fun q10 =>
        (bif q10.1.1 == 64 then
          (bif q4.1.2.1 then
            (bif !q5.1.2.1 then
              (bif !q6.1.2.1 then
                (bif !q7.1.2.1 then
                  (bif !q8.1.2.1 then
                    (bif q9.1.2.2.1 then
                      (bif beqD (.pair (.int .i64) (.int .i64)) q9.1.2.1 (5, 2) then
                        (S17 k q9.1.1).bind fun q11 =>
                        (bif q11.1.1 == 64 then
                          (S8 k (-1)).bind fun q12 =>
                          (S17 k q12.1.1).bind fun q13 =>
                          (bif q13.1.1 == 0 then
                            (S8 k 3).bind fun q14 =>
                            some (((q14.1.1.1.length : Int) == 3, ()), ())
                          else
                            some ((false, ()), ()))
                        else
                          some ((false, ()), ()))
                      else
                        some ((false, ()), ()))
                    else
                      some ((false, ()), ()))
                  else
                    some ((false, ()), ()))
                else
                  some ((false, ()), ()))
              else
                some ((false, ()), ()))
            else
              some ((false, ()), ()))
          else
            some ((false, ()), ()))
        else
          some ((false, ()), ()))
      else
        some ((false, ()), ()))
    else
      some ((false, ()), ())))
noncomputable def b5_7 (k : Nat) (g : ((Unit) × ((List Int) × (List Bool) × Unit) × (Int × Int × Unit) × Int × Unit) → Option ((Bool × Unit) × Unit)) (d : (Unit) × ((List Int) × (List Bool) × Unit) × (Int × Int × Unit) × Int × Unit) : Option ((Bool × Unit) × Unit) := l5_7 k (fun s s1 h h1 i => g ((), (s, s1, ()), (h, h1, ()), i, ())) d.2.1.1 d.2.1.2.1 d.2.2.1.1 d.2.2.1.2.1 d.2.2.2.1
noncomputable def L5_7 (k : Nat) (j : Nat) (s : List Int) (s1 : List Bool) (h : Int) (h1 : Int) (i : Int) : Option ((Bool × Unit) × Unit) := iter (R := (Bool × Unit) × Unit) c5_L7 (b5_7 k) j ((), (s, s1, ()), (h, h1, ()), i, ())
theorem L5_7_s (k : Nat) (j : Nat) (s : List Int) (s1 : List Bool) (h : Int) (h1 : Int) (i : Int) : L5_7 k (j + 1) s s1 h h1 i = l5_7 k (fun s s1 h h1 i => L5_7 k j s s1 h h1 i) s s1 h h1 i := iter_succ _ _ _ _
noncomputable def S5 (k : Nat) : Option ((Bool × Unit) × Unit) :=
  (S7 k).bind fun q0 =>
  (bif !q0.1.1 then
    some ((false, ()), ())
  else
    (S8 k 100).bind fun q1 =>
    L5_7 k k q1.1.1.1 q1.1.1.2 0 0 0)
noncomputable def E5 : Env := tab.env (lk [(7, F7), (8, F8), (10, F10), (12, F12), (17, F17)]) (hintL [])
theorem E5_ok : EnvOK Try.prog E5 := envOK_of tabOK _ _ (allFn_lk (l := [(7, F7), (8, F8), (10, F10), (12, F12), (17, F17)]) ⟨ok7, ok8, ok10, ok12, ok17, trivial⟩)
noncomputable def B5 (k : Nat) : Tbl (RD R5 × MD P5) := (.loop 7 c5_L7 (b5_7 k) (fun g => .nil) .nil)
noncomputable def F5 : Fn := ⟨P5, R5, fun k x => S5 k ⟩
theorem ok5 : FnOK Try.prog 5 F5 := evalF_ok (E := E5) (T := B5) E5_ok mix Try.func5 rfl (by kernel_rfl) (by kernel_rfl) (fun k => by kernel_rfl) (fun k x => by kernel_rfl)
end Go.Proofs.Ytkhahfpjnmebdaa.Ab
