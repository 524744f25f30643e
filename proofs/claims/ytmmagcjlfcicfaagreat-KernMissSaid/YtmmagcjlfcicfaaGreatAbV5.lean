import Derived.Test.YtmmagcjlfcicfaaGreatAbV4
/- Contracts, printed by this session's own program gen.py. -/
set_option linter.unusedVariables false
set_option linter.unusedSimpArgs false
set_option maxRecDepth 100000
namespace Go.Proofs.YtmmagcjlfcicfaaGreat.Ab
open Go.RowKit
abbrev Y5_0 : Type := Int × Int × (List (Int × Int × Int × (List (Int × Int × Int × Int)) × (List (Int × Int × Int × Int)) × List (Int × Int × Int × Int))) × (List (PN Int 5)) × Bool × Bool × Bool × (List (Int × Int × Int × Int × (Int × (PN Int 8) × (List (Int × Int × Int)) × Bool) × (Int × (PN Int 8) × (List (Int × Int × Int)) × Bool) × (List Int) × Bool)) × (List Int) × (List Bool) × (List (Int × (Int × Int) × (Int × Int) × ((List Int) × List Int) × (Int × List (Int × Int)) × Int)) × (List Int) × (List Bool) × (List (PN Int 6)) × Unit
abbrev Y5_1 : Ty := .pair (.int .i64) (.pair (.int .i64) (.pair (.int .i64) (.pair (.int .i64) (.pair (.pair (.int .i64) (.pair (arrT 8 (.int .i64)) (.pair (.sl 233 (.pair (.int .i64) (.pair (.int .i64) (.int .i64)))) .bool))) (.pair (.pair (.int .i64) (.pair (arrT 8 (.int .i64)) (.pair (.sl 233 (.pair (.int .i64) (.pair (.int .i64) (.int .i64)))) .bool))) (.pair (.sl 3 (.int .i64)) .bool))))))
abbrev Y5_2 : Type := Int × Int × Int × Int × (Int × (PN Int 8) × (List (Int × Int × Int)) × Bool) × (Int × (PN Int 8) × (List (Int × Int × Int)) × Bool) × (List Int) × Bool
abbrev Y5_3 : Ty := .pair (.int .i64) (.pair (.int .i64) (.pair (.int .i64) (.pair (.sl 87 (.pair (.int .i64) (.pair (.int .i64) (.pair (.int .i64) (.int .i64))))) (.pair (.sl 87 (.pair (.int .i64) (.pair (.int .i64) (.pair (.int .i64) (.int .i64))))) (.sl 87 (.pair (.int .i64) (.pair (.int .i64) (.pair (.int .i64) (.int .i64)))))))))
abbrev Y5_4 : Ty := .pair (.int .i64) (.pair (.pair (.int .i64) (.int .i64)) (.pair (.pair (.int .i64) (.int .i64)) (.pair (.pair (.sl 2 (.int .i64)) (.sl 3 (.int .i64))) (.pair (.pair (.int .u32) (.sl 297 (.pair (.int .i64) (.int .u32)))) (.int .u32)))))
abbrev Y5_5 : Type := Int × Int × Int × (List (Int × Int × Int × Int)) × (List (Int × Int × Int × Int)) × List (Int × Int × Int × Int)
abbrev Y5_6 : Type := Int × (Int × Int) × (Int × Int) × ((List Int) × List Int) × (Int × List (Int × Int)) × Int
abbrev Y5_7 : Type := ((Int × Int × (List Y5_5) × (List (PN Int 5)) × Bool × Bool × Bool × (List Y5_2) × (((List Int) × List Bool) × List Y5_6) × (List Int) × List Bool) × (List (PN Int 6)) × Int × Unit) × Unit
abbrev Y5_8 : Ty := .pair (.int .i64) (.int .i64)
abbrev Y5_9 : Ty := .pair (.int .i64) (.pair (.int .i64) (.pair (.sl 77 Y5_3) (.pair (.sl 96 (arrT 5 (.int .i64))) (.pair .bool (.pair .bool (.pair .bool (.pair (.sl 94 Y5_1) (.pair (.pair (.pair (.sl 3 (.int .i64)) (.sl 4 .bool)) (.sl 124 Y5_4)) (.pair (.sl 3 (.int .i64)) (.sl 4 .bool))))))))))
abbrev Y5_10 : Type := List (Int × Int)
abbrev Y5_11 : Type := List (Int × Int)
abbrev Y5_12 : Type := (Y5_10 × Unit) × Unit
abbrev Y5_13 : Type := (Unit) × Y5_0 × Unit
noncomputable abbrev P52 : List PT := [.val ⟨false, (.int .i64), false⟩, .val ⟨false, (.int .i64), false⟩, .val ⟨false, (.int .i64), false⟩]
noncomputable abbrev R52 : List RT := [.val ⟨true, Y5_1, true⟩]
noncomputable def S52 (k : Nat) (place : Int) (at_ : Int) (in_ : Int) : Option ((Y5_2 × Unit) × Unit) :=
 (S99 k in_).bind fun q0 =>
 (S99 k in_).bind fun q1 =>
 some (((place, at_, in_, 0, q0.1.1, q1.1.1, [], false), ()), ())
noncomputable def E52 : Env := tab.env (lk [(99, F99)]) (hintL [])
theorem E52_ok : EnvOK Tryz.prog E52 := envOK_of tabOK _ _ (allFn_lk (l := [(99, F99)]) ⟨ok99, trivial⟩)
noncomputable def B52 (k : Nat) : Tbl (RD R52 × MD P52) := .nil
noncomputable def F52 : Fn := ⟨P52, R52, fun k x => S52 k x.1 x.2.1 x.2.2.1⟩
theorem ok52 : FnOK Tryz.prog 52 F52 := evalF_ok (E := E52) (T := B52) E52_ok mix Tryz.func52 rfl (by kernel_rfl) (by kernel_rfl) (fun k => by kernel_rfl) (fun k x => by kernel_rfl)
section
variable (w : World) {g n c i g2 m c2 : Nat}
theorem insF51_t : Tryz.prog.underlying 26 = some (.slice 94) ∧ Tryz.prog.underlying 3 = some (.int .i64) ∧ Tryz.prog.underlying 4 = some .bool ∧ Tryz.prog.follows .mixedOrders = true ∧ (∀ w, (Go.sizeOf 94).run Tryz.prog w = .ok 28 w) ∧ Tryz.f51.ntmps = 95 := ⟨by kernel_rfl, by kernel_rfl, by kernel_rfl, by kernel_rfl, fun w => by kernel_rfl, rfl⟩
theorem insF51_none {v u : Value} (hv : (∃ A n c, v = .slice A n c ∧ i ≤ n)) (hu : ∃ A c, u = .slice A m c) (hm : m = 0) : Calls Tryz.prog 51 #[v, .int .i64 i, u] w fun e w' => e = .returned v ∧ w' = w := by
 obtain ⟨t24, t3, t4, mixed, z36, hnt⟩ := insF51_t
 have u24 := run_underlying t24; have u3 := run_underlying t3; have u4 := run_underlying t4
 obtain ⟨A, n, c, rfl, hi⟩ := hv
 obtain ⟨A2, c2, rfl⟩ := hu
 have hi0 : (i : Int) ≤ (n : Int) := by omega
 have hz1 : (m : Int) = 0 := by omega
 cases A <;> (go_enter Tryz.func51, hnt; go_wp2 <;> (go_ret; exact ⟨rfl, rfl⟩))
theorem insF51_end {v : Value} {w' : World} {v' : Value} (hv : (∃ A c, v = .slice A n c)) (hm : 0 < m)
  (hr : ∀ ty, (Builtin.append_ #[26, 26] ty #[v, .slice (some ⟨g2, 0, none⟩) m c2]).run Tryz.prog w = .ok v' w') : Calls Tryz.prog 51 #[v, .int .i64 n, .slice (some ⟨g2, 0, none⟩) m c2] w fun e w1 => e = .returned v' ∧ w1 = w' := by
 obtain ⟨t24, t3, t4, mixed, z36, hnt⟩ := insF51_t
 have u24 := run_underlying t24; have u3 := run_underlying t3; have u4 := run_underlying t4
 have hz1 : ¬ ((m : Int) = 0) := by omega
 obtain ⟨A, c, rfl⟩ := hv
 go_enter Tryz.func51, hnt
 go_wp2_with (at_builtin; refine append_list rfl rfl _ _ rfl rfl (hr _) ?_)
 all_goals (go_ret; exact ⟨rfl, rfl⟩)
theorem insF51_shift {v' v'' : Value} {w' w'' : World} (hi : i < n) (hm : 0 < m) (hroom : n + m ≤ c) (hc63 : c ≤ 9223372036854775807)
  (hov : ∀ lb cb, (callFunc 97 #[.slice (some ⟨g2, 0, none⟩) m c2, .slice (some ⟨g, (i + m) * 28, none⟩) lb cb]).run Tryz.prog w = .ok (.value (.bool false)) w)
  (hcp1 : ∀ ty dc sc, (Builtin.copy_ #[26, 26] ty #[.slice (some ⟨g, (i + m) * 28, none⟩) (n + m - (i + m)) dc, .slice (some ⟨g, i * 28, none⟩) (n + m - i) sc]).run Tryz.prog w.drew = .ok v' w')
  (hcp2 : ∀ ty dc, (Builtin.copy_ #[26, 26] ty #[.slice (some ⟨g, i * 28, none⟩) (n + m - i) dc, .slice (some ⟨g2, 0, none⟩) m c2]).run Tryz.prog w' = .ok v'' w'') :
  Calls Tryz.prog 51 #[.slice (some ⟨g, 0, none⟩) n c, .int .i64 i, .slice (some ⟨g2, 0, none⟩) m c2] w fun e w1 => e = .returned (.slice (some ⟨g, 0, none⟩) (n + m) c) ∧ w1 = w'' := by
 obtain ⟨t24, t3, t4, mixed, z36, hnt⟩ := insF51_t
 have u24 := run_underlying t24; have u3 := run_underlying t3; have u4 := run_underlying t4
 have hz1 : ¬ ((m : Int) = 0) := by omega
 have hz2 : ¬ ((i : Int) = (n : Int)) := by omega
 have hw1 : IntKind.i64.wrap ((i : Int) + (m : Int)) = (i : Int) + (m : Int) := by rw [IntKind.wrap_i64]; omega
 have hb1 : (0 : Int) ≤ (i : Int) + (m : Int) := by omega
 have hin : i ≤ n := by omega
 have htn : ((i : Int) + (m : Int)).toNat = i + m := by omega
 have hb2 : ¬ (c = i + m) := by omega
 have hb3 : (i : Int) ≤ (n : Int) + (m : Int) := by omega
 have hb4 : ¬ (c = i) := by omega
 go_enter Tryz.func51, hnt
 go_wp2_with (simp only [hov])
 go_region_law_o (refine copy_step rfl rfl _ _ (by simp [Act.eval, Act.put]) (by simp [Act.eval, Act.put]) (hcp1 _ _ _) ?_)
 go_wp2_with (at_builtin; refine copy_list rfl rfl _ _ rfl rfl (hcp2 _ _) ?_)
 go_ret
 exact ⟨rfl, rfl⟩
theorem insF51_grow {h G : Nat} {v' v'' : Value} {w0 w' w'' : World} (hi : i < n) (hm : 0 < m) (hnc : n ≤ c) (hroom : c < n + m) (hc63 : n + m ≤ 140737488355328) (hG : n + m ≤ G) (hG63 : G ≤ 9223372036854775807)
  (hrz : ∀ ty, (Builtin.append_ #[26, 3] ty #[.slice (some ⟨g, 0, none⟩) i c, .int .i64 ((n : Int) + (m : Int) - (i : Int))]).run Tryz.prog w = .ok (.slice (some ⟨h, 0, none⟩) (n + m) G) w0)
  (hcp1 : ∀ ty dc, (Builtin.copy_ #[26, 26] ty #[.slice (some ⟨h, i * 28, none⟩) (n + m - i) dc, .slice (some ⟨g2, 0, none⟩) m c2]).run Tryz.prog w0 = .ok v' w')
  (hcp2 : ∀ ty dc sc, (Builtin.copy_ #[26, 26] ty #[.slice (some ⟨h, (i + m) * 28, none⟩) (n + m - (i + m)) dc, .slice (some ⟨g, i * 28, none⟩) (n - i) sc]).run Tryz.prog w'.drew = .ok v'' w'') :
  Calls Tryz.prog 51 #[.slice (some ⟨g, 0, none⟩) n c, .int .i64 i, .slice (some ⟨g2, 0, none⟩) m c2] w fun e w1 => e = .returned (.slice (some ⟨h, 0, none⟩) (n + m) G) ∧ w1 = w'' := by
 obtain ⟨t24, t3, t4, mixed, z36, hnt⟩ := insF51_t
 have u24 := run_underlying t24; have u3 := run_underlying t3; have u4 := run_underlying t4
 have hz1 : ¬ ((m : Int) = 0) := by omega
 have hz2 : ¬ ((i : Int) = (n : Int)) := by omega
 have hz3 : (c : Int) < (n : Int) + (m : Int) := by omega
 have hw1 : IntKind.i64.wrap ((i : Int) + (m : Int)) = (i : Int) + (m : Int) := by rw [IntKind.wrap_i64]; omega
 have hb1 : (0 : Int) ≤ (i : Int) + (m : Int) := by omega
 have hin : i ≤ n := by omega
 have htn : ((i : Int) + (m : Int)).toNat = i + m := by omega
 have hGi : ¬ (G = i) := by omega
 have hGim : ¬ (G = i + m) := by omega
 have hci : ¬ (c = i) := by omega
 have hb3 : (i : Int) ≤ (n : Int) := by omega
 go_enter Tryz.func51, hnt
 go_wp2_with (first
  | (at_builtin; refine append_list rfl rfl _ _ rfl rfl (hrz _) ?_)
  | (at_builtin; refine copy_list rfl rfl _ _ rfl rfl (hcp1 _ _) ?_))
 go_region_law_o (refine copy_step rfl rfl _ _ (by simp [Act.eval, Act.put]) (by simp [Act.eval, Act.put]) (hcp2 _ _ _) ?_)
 go_wp2
 go_ret
 exact ⟨rfl, rfl⟩
end
noncomputable abbrev P51 : List PT := insPs 94 Y5_1
noncomputable abbrev R51 : List RT := insRs 94 Y5_1
noncomputable def S51 (k : Nat) (xs : List Y5_2) (i : Int) (ys : List Y5_2) : Option (((List Y5_2) × Unit) × Unit) := insSem 272 94 Y5_1 k (xs, i, ys, ())
noncomputable def F51 : Fn := ⟨P51, R51, insSem 272 94 Y5_1⟩
noncomputable def E51 : Env := tab.env (fun _ => none) (fun _ => 0)
theorem E51_ok : EnvOK Tryz.prog E51 := envOK_of tabOK _ _ (fun f F h => by cases h)
theorem ok51 : FnOK Tryz.prog 51 F51 := by
 obtain ⟨i0, z, a1, a2, a3, a4, a5⟩ := (E51_ok.ty 94 (Y5_1) (by kernel_rfl)).info
 have b1 : E51.byt 94 = 272 := by kernel_rfl
 have b2 : Ty.sz (Y5_1) = 28 := rfl
 rw [b1] at a3
 have hz : z.cells.size = 28 := by rw [← Array.length_toList, a5, zeroV_len, b2]
 obtain ⟨t24, t3, t4, mixed, z36, hnt⟩ := insF51_t
 refine ins_ok Tryz.func51 rfl (by kernel_rfl) ?_
 rw [b2, ← a3]
 refine ins_all (S := 26) (z := z) t24 t3 a1 a4 (by rw [a2, b2]) hz (by decide) (by rw [a3]; decide) (fun w i m v u h1 h2 h3 => insF51_none w h1 h2 h3) (fun w n g2 m c2 v v' w' h1 h2 h3 => insF51_end w h1 h2 h3) (fun w g n c i g2 m c2 v' v'' w' w'' h1 h2 h3 h4 h5 h6 hne hg hg2 => insF51_shift w h1 h2 h3 h4 (fun lb cb => ?_) h5 h6) (fun w g n c i g2 m c2 h G v' v'' w0 w' w'' h1 h2 h3 h4 h5 h6 h7 h8 h9 h10 => insF51_grow w h1 h2 h3 h4 h5 h6 h7 h8 h9 h10)
 obtain ⟨cur, q1, q2⟩ := hg
 obtain ⟨cur2, q3⟩ := hg2
 rw [run_callFunc_extern Tryz.func97 (by kernel_rfl) (by kernel_rfl) (by kernel_rfl) (e := Extern.SlicesOverlaps.overlaps #[26, 26] #[4]) (by kernel_rfl), Lib.run_overlaps_apart w 26 4 94 t24 28 z36 ⟨g2, 0, none⟩ ⟨g, (i + m) * 28, none⟩ m c2 lb cb hne 94 94 cur2.size cur.size (by simp [World.shape?, q3]) (by simp [World.shape?, q1]) q2 (Kd.frozen_row q3 _) (Kd.frozen_row q3 _)]
 rfl
noncomputable abbrev P20 : List PT := [.val ⟨true, Y5_9, false⟩, .val ⟨false, (.int .i64), false⟩, .val ⟨false, (.int .i64), false⟩]
noncomputable abbrev R20 : List RT := [.val ⟨true, Y5_9, true⟩, .val ⟨false, (.sl 82 (arrT 6 (.int .i64))), true⟩, .val ⟨false, (.int .i64), true⟩]
noncomputable abbrev c20_J17 : Cut := ⟨[1, 2, 3, 6, 9, 10], [.cell (.int .i64), .cell (.int .i64), .box 37 [.cell (.int .i64), .cell (.int .i64), .own 77 Y5_3, .own 96 (arrT 5 (.int .i64)), .cell .bool, .cell .bool, .cell .bool, .own 94 Y5_1, .own 3 (.int .i64), .own 4 .bool, .own 124 Y5_4, .own 3 (.int .i64), .own 4 .bool], .box 37 [.cell (.int .i64), .cell (.int .i64), .nil, .nil, .cell .bool, .cell .bool, .cell .bool, .nil, .nil, .nil, .nil, .nil, .nil], .own 82 (arrT 6 (.int .i64)), .cell (.int .i64)], [], 98, []⟩
noncomputable def j20_17 (k : Nat) (place2 : Int) (in_2 : Int) (k_14 : Int) (k_15 : Int) (k_16 : List Y5_5) (k_17 : List (PN Int 5)) (k_18 : Bool) (k_19 : Bool) (k_20 : Bool) (k_21 : List Y5_2) (k_22 : List Int) (k_23 : List Bool) (k_24 : List Y5_6) (k_25 : List Int) (k_26 : List Bool) (t6_5 : Int) (t6_6 : Int) (t6_7 : Bool) (t6_8 : Bool) (t6_9 : Bool) (events : List (PN Int 6)) (at_ : Int) : Option Y5_7 :=
 (S52 k place2 k_14 in_2).bind fun q4 =>
 (S51 k k_21 at_ ([q4.1.1] : List Y5_2)).bind fun q5 =>
 ap events ([(k_14, 1, place2, 0, in_2, 0)] : List (PN Int 6)) 48 fun r6 =>
 some (((k_14, k_15, k_16, k_17, k_18, k_19, k_20, q5.1.1, ((k_22, k_23), k_24), k_25, k_26), r6, 0, ()), ())
noncomputable abbrev c20_J10 : Cut := ⟨[1, 2, 3, 6], [.cell (.int .i64), .cell (.int .i64), .box 37 [.cell (.int .i64), .cell (.int .i64), .own 77 Y5_3, .own 96 (arrT 5 (.int .i64)), .cell .bool, .cell .bool, .cell .bool, .own 94 Y5_1, .own 3 (.int .i64), .own 4 .bool, .own 124 Y5_4, .own 3 (.int .i64), .own 4 .bool], .box 37 [.cell (.int .i64), .cell (.int .i64), .nil, .nil, .cell .bool, .cell .bool, .cell .bool, .nil, .nil, .nil, .nil, .nil, .nil]], [], 98, []⟩
noncomputable def j20_10 (k : Nat) (place1 : Int) (in_1 : Int) (k_1 : Int) (k_2 : Int) (k_3 : List Y5_5) (k_4 : List (PN Int 5)) (k_5 : Bool) (k_6 : Bool) (k_7 : Bool) (k_8 : List Y5_2) (k_9 : List Int) (k_10 : List Bool) (k_11 : List Y5_6) (k_12 : List Int) (k_13 : List Bool) (t6 : Int) (t6_1 : Int) (t6_2 : Bool) (t6_3 : Bool) (t6_4 : Bool) : Option Y5_7 :=
 (S49 k (k_1, k_2, k_3, k_4, k_5, k_6, k_7, k_8, ((k_9, k_10), k_11), k_12, k_13) place1).bind fun q1 =>
 (bif q1.1.2.1 then
  ix k_8 q1.1.1 <|
  (bif (rd k_8 q1.1.1 (0, 0, 0, 0, (0, prep (α := Int) 8 0, [], false), (0, prep (α := Int) 8 0, [], false), [], false)).2.2.2.1 != 2 then
   some (((k_1, k_2, k_3, k_4, k_5, k_6, k_7, k_8, ((k_9, k_10), k_11), k_12, k_13), [], 5, ()), ())
  else
   ap ([] : List (PN Int 6)) ([(k_1, 13, place1, 0, 0, 0)] : List (PN Int 6)) 48 fun r2 =>
   (S50 k k_8 q1.1.1 (IntKind.i64.wrap (q1.1.1 + 1))).bind fun q3 =>
   j20_17 k place1 in_1 k_1 k_2 k_3 k_4 k_5 k_6 k_7 q3.1.1 k_9 k_10 k_11 k_12 k_13 t6 t6_1 t6_2 t6_3 t6_4 r2 q1.1.1)
 else
  j20_17 k place1 in_1 k_1 k_2 k_3 k_4 k_5 k_6 k_7 k_8 k_9 k_10 k_11 k_12 k_13 t6 t6_1 t6_2 t6_3 t6_4 ([] : List (PN Int 6)) q1.1.1)
noncomputable def S20 (k : Nat) (k_ : Int × Int × (List Y5_5) × (List (PN Int 5)) × Bool × Bool × Bool × (List Y5_2) × (((List Int) × List Bool) × List Y5_6) × (List Int) × List Bool) (place : Int) (in_ : Int) : Option Y5_7 :=
 (S34 k k_).bind fun q0 =>
 (bif !q0.1.1.2.2.2.2.1 then
  some ((q0.1.1, [], 8, ()), ())
 else
  (bif q0.1.1.2.2.2.2.2.1 then
   some ((q0.1.1, [], 17, ()), ())
  else
   (bif decide (place < 0) then
    some ((q0.1.1, [], 3, ()), ())
   else
    (bif decide (place ≥ (q0.1.1.2.2.1.length : Int)) then
     some ((q0.1.1, [], 3, ()), ())
    else
     (bif decide (place < (q0.1.1.2.2.2.2.2.2.2.2.2.2.length : Int)) then
      ix q0.1.1.2.2.2.2.2.2.2.2.2.2 place <|
      (bif rd q0.1.1.2.2.2.2.2.2.2.2.2.2 place false then
       some ((q0.1.1, [], 6, ()), ())
      else
       j20_10 k place in_ q0.1.1.1 q0.1.1.2.1 q0.1.1.2.2.1 q0.1.1.2.2.2.1 q0.1.1.2.2.2.2.1 q0.1.1.2.2.2.2.2.1 q0.1.1.2.2.2.2.2.2.1 q0.1.1.2.2.2.2.2.2.2.1 q0.1.1.2.2.2.2.2.2.2.2.1.1.1 q0.1.1.2.2.2.2.2.2.2.2.1.1.2 q0.1.1.2.2.2.2.2.2.2.2.1.2 q0.1.1.2.2.2.2.2.2.2.2.2.1 q0.1.1.2.2.2.2.2.2.2.2.2.2 0 0 false false false)
     else
      j20_10 k place in_ q0.1.1.1 q0.1.1.2.1 q0.1.1.2.2.1 q0.1.1.2.2.2.1 q0.1.1.2.2.2.2.1 q0.1.1.2.2.2.2.2.1 q0.1.1.2.2.2.2.2.2.1 q0.1.1.2.2.2.2.2.2.2.1 q0.1.1.2.2.2.2.2.2.2.2.1.1.1 q0.1.1.2.2.2.2.2.2.2.2.1.1.2 q0.1.1.2.2.2.2.2.2.2.2.1.2 q0.1.1.2.2.2.2.2.2.2.2.2.1 q0.1.1.2.2.2.2.2.2.2.2.2.2 0 0 false false false)))))
noncomputable def E20 : Env := tab.env (lk [(34, F34), (49, F49), (50, F50), (51, F51), (52, F52)]) (hintL [(9, 2)])
theorem E20_ok : EnvOK Tryz.prog E20 := envOK_of tabOK _ _ (allFn_lk (l := [(34, F34), (49, F49), (50, F50), (51, F51), (52, F52)]) ⟨ok34, ok49, ok50, ok51, ok52, trivial⟩)
noncomputable def B20 (k : Nat) : Tbl (RD R20 × MD P20) := (.join 17 c20_J17 (fun d => j20_17 k d.2.1 d.2.2.1 d.2.2.2.1.1 d.2.2.2.1.2.1 d.2.2.2.1.2.2.1 d.2.2.2.1.2.2.2.1 d.2.2.2.1.2.2.2.2.1 d.2.2.2.1.2.2.2.2.2.1 d.2.2.2.1.2.2.2.2.2.2.1 d.2.2.2.1.2.2.2.2.2.2.2.1 d.2.2.2.1.2.2.2.2.2.2.2.2.1 d.2.2.2.1.2.2.2.2.2.2.2.2.2.1 d.2.2.2.1.2.2.2.2.2.2.2.2.2.2.1 d.2.2.2.1.2.2.2.2.2.2.2.2.2.2.2.1 d.2.2.2.1.2.2.2.2.2.2.2.2.2.2.2.2.1 d.2.2.2.2.1.1 d.2.2.2.2.1.2.1 d.2.2.2.2.1.2.2.2.2.1 d.2.2.2.2.1.2.2.2.2.2.1 d.2.2.2.2.1.2.2.2.2.2.2.1 d.2.2.2.2.2.1 d.2.2.2.2.2.2.1) (.join 10 c20_J10 (fun d => j20_10 k d.2.1 d.2.2.1 d.2.2.2.1.1 d.2.2.2.1.2.1 d.2.2.2.1.2.2.1 d.2.2.2.1.2.2.2.1 d.2.2.2.1.2.2.2.2.1 d.2.2.2.1.2.2.2.2.2.1 d.2.2.2.1.2.2.2.2.2.2.1 d.2.2.2.1.2.2.2.2.2.2.2.1 d.2.2.2.1.2.2.2.2.2.2.2.2.1 d.2.2.2.1.2.2.2.2.2.2.2.2.2.1 d.2.2.2.1.2.2.2.2.2.2.2.2.2.2.1 d.2.2.2.1.2.2.2.2.2.2.2.2.2.2.2.1 d.2.2.2.1.2.2.2.2.2.2.2.2.2.2.2.2.1 d.2.2.2.2.1.1 d.2.2.2.2.1.2.1 d.2.2.2.2.1.2.2.2.2.1 d.2.2.2.2.1.2.2.2.2.2.1 d.2.2.2.2.1.2.2.2.2.2.2.1) .nil))
noncomputable def F20 : Fn := ⟨P20, R20, fun k x => S20 k x.1 x.2.1 x.2.2.1⟩
theorem ok20 : FnOK Tryz.prog 20 F20 := evalF_ok (E := E20) (T := B20) E20_ok mix Tryz.func20 rfl (by kernel_rfl) (by kernel_rfl) (fun k => by kernel_rfl) (fun k x => by kernel_rfl)
noncomputable abbrev P100 : List PT := [.mbox 150 [.cell (.int .i64), .cell (.int .i64), .own 77 Y5_3, .own 96 (arrT 5 (.int .i64)), .cell .bool, .cell .bool, .cell .bool, .cell (.sl 94 Y5_1), .own 3 (.int .i64), .own 4 .bool, .own 124 Y5_4, .own 3 (.int .i64), .own 4 .bool, .own 82 (arrT 6 (.int .i64))], .val ⟨true, (arrT 6 (.int .i64)), false⟩]
noncomputable abbrev R100 : List RT := []
noncomputable def S100 (k : Nat) (t : Int) (t1 : Int) (t2 : List Y5_5) (t3 : List (PN Int 5)) (t4 : Bool) (t5 : Bool) (t6 : Bool) (t7 : List Y5_2) (t8 : List Int) (t9 : List Bool) (t10 : List Y5_6) (t11 : List Int) (t12 : List Bool) (t13 : List (PN Int 6)) (e : PN Int 6) : Option Y5_13 :=
 ap t13 ([(t, e.2)] : List (PN Int 6)) 48 fun r0 =>
 some ((), (t, t1, t2, t3, t4, t5, t6, t7, t8, t9, t10, t11, t12, r0, ()), ())
noncomputable def E100 : Env := tab.env (lk []) (hintL [])
theorem E100_ok : EnvOK Tryz.prog E100 := envOK_of tabOK _ _ (fun f F h => by cases h)
noncomputable def B100 (k : Nat) : Tbl (RD R100 × MD P100) := .nil
noncomputable def F100 : Fn := ⟨P100, R100, fun k x => S100 k x.1.1 x.1.2.1 x.1.2.2.1 x.1.2.2.2.1 x.1.2.2.2.2.1 x.1.2.2.2.2.2.1 x.1.2.2.2.2.2.2.1 x.1.2.2.2.2.2.2.2.1 x.1.2.2.2.2.2.2.2.2.1 x.1.2.2.2.2.2.2.2.2.2.1 x.1.2.2.2.2.2.2.2.2.2.2.1 x.1.2.2.2.2.2.2.2.2.2.2.2.1 x.1.2.2.2.2.2.2.2.2.2.2.2.2.1 x.1.2.2.2.2.2.2.2.2.2.2.2.2.2.1 x.2.1⟩
theorem ok100 : FnOK Tryz.prog 100 F100 := evalF_ok (E := E100) (T := B100) E100_ok mix Tryz.func100 rfl (by kernel_rfl) (by kernel_rfl) (fun k => by kernel_rfl) (fun k x => by kernel_rfl)
noncomputable abbrev P194 : List PT := clonePs 114 Y5_8
noncomputable abbrev R194 : List RT := cloneRs 114 Y5_8
noncomputable def S194 (k : Nat) (xs : Y5_11) : Option Y5_12 := cloneSem 16 114 Y5_8 k (xs, ())
noncomputable def F194 : Fn := ⟨P194, R194, cloneSem 16 114 Y5_8⟩
noncomputable def E194 : Env := tab.env (fun _ => none) (fun _ => 0)
theorem E194_ok : EnvOK Tryz.prog E194 := envOK_of tabOK _ _ (fun f F h => by cases h)
theorem ok194 : FnOK Tryz.prog 194 F194 := clone_ok E194_ok mix Tryz.func194 rfl (by kernel_rfl) (by kernel_rfl) (fun k => by kernel_rfl) (fun k xs => by kernel_rfl) (fun k xs => by kernel_rfl)
noncomputable abbrev P212 : List PT := [.val ⟨false, (.sl 114 Y5_8), false⟩, .val ⟨false, (.int .i64), false⟩]
noncomputable abbrev R212 : List RT := [.val ⟨false, .bool, true⟩]
noncomputable def S212 (k : Nat) (l_ : Y5_11) (s : Int) : Option ((Bool × Unit) × Unit) :=
 (bif decide (s ≥ 0) then
  some ((decide (s < (l_.length : Int)), ()), ())
 else
  some ((false, ()), ()))
noncomputable def E212 : Env := tab.env (lk []) (hintL [])
theorem E212_ok : EnvOK Tryz.prog E212 := envOK_of tabOK _ _ (fun f F h => by cases h)
noncomputable def B212 (k : Nat) : Tbl (RD R212 × MD P212) := .nil
noncomputable def F212 : Fn := ⟨P212, R212, fun k x => S212 k x.1 x.2.1⟩
theorem ok212 : FnOK Tryz.prog 212 F212 := evalF_ok (E := E212) (T := B212) E212_ok mix Tryz.func212 rfl (by kernel_rfl) (by kernel_rfl) (fun k => by kernel_rfl) (fun k x => by kernel_rfl)
noncomputable abbrev P195 : List PT := [.val ⟨false, (.sl 114 Y5_8), false⟩, .val ⟨false, (.int .i64), false⟩, .val ⟨false, (.int .i64), false⟩]
noncomputable abbrev R195 : List RT := [.val ⟨false, .bool, true⟩]
noncomputable def S195 (k : Nat) (l_ : Y5_11) (s : Int) (task : Int) : Option ((Bool × Unit) × Unit) :=
 (S212 k l_ s).bind fun q0 =>
 (bif q0.1.1 then
  (bif decide (task ≥ 0) then
   ix l_ s <|
   some (((rd l_ s (0, 0)).2 == (IntKind.i64.wrap (task + 1)), ()), ())
  else
   some ((false, ()), ()))
 else
  some ((false, ()), ()))
noncomputable def E195 : Env := tab.env (lk [(212, F212)]) (hintL [])
theorem E195_ok : EnvOK Tryz.prog E195 := envOK_of tabOK _ _ (allFn_lk (l := [(212, F212)]) ⟨ok212, trivial⟩)
noncomputable def B195 (k : Nat) : Tbl (RD R195 × MD P195) := .nil
noncomputable def F195 : Fn := ⟨P195, R195, fun k x => S195 k x.1 x.2.1 x.2.2.1⟩
theorem ok195 : FnOK Tryz.prog 195 F195 := evalF_ok (E := E195) (T := B195) E195_ok mix Tryz.func195 rfl (by kernel_rfl) (by kernel_rfl) (fun k => by kernel_rfl) (fun k x => by kernel_rfl)
noncomputable abbrev P154 : List PT := [.val ⟨false, (.sl 114 Y5_8), false⟩, .val ⟨false, (.int .i64), false⟩]
noncomputable abbrev R154 : List RT := [.val ⟨false, (.sl 114 Y5_8), true⟩]
noncomputable abbrev c154_L3 : Cut := ⟨[0, 1, 5, 10, 11], [.cell (.sl 114 Y5_8), .cell (.int .i64), .own 114 Y5_8, .cell (.int .i64), .cell (.int .i64)], [], 24, []⟩
noncomputable def l154_3 (k : Nat) (g3 : Y5_10 → Int → Y5_10 → Int → Int → Option Y5_12) (l_1 : Y5_11) (task1 : Int) (out : Y5_11) (t10 : Int) (t11 : Int) : Option Y5_12 :=
 (bif decide (t11 < t10) then
  (S195 k l_1 t11 task1).bind fun q1 =>
  (bif q1.1.1 then
   ix out t11 <|
   g3 l_1 task1 (upd out t11 ((rd out t11 (0, 0)).1, 0)) t10 (IntKind.i64.wrap (t11 + 1))
  else
   g3 l_1 task1 out t10 (IntKind.i64.wrap (t11 + 1)))
 else
  some ((out, ()), ()))
noncomputable def b154_3 (k : Nat) (g : ((Unit) × Y5_10 × Int × Y5_10 × Int × Int × Unit) → Option Y5_12) (d : (Unit) × Y5_10 × Int × Y5_10 × Int × Int × Unit) : Option Y5_12 := l154_3 k (fun l_1 task1 out t10 t11 => g ((), l_1, task1, out, t10, t11, ())) d.2.1 d.2.2.1 d.2.2.2.1 d.2.2.2.2.1 d.2.2.2.2.2.1
noncomputable def L154_3 (k : Nat) (j : Nat) (l_1 : Y5_11) (task1 : Int) (out : Y5_11) (t10 : Int) (t11 : Int) : Option Y5_12 := iter (R := (Y5_10 × Unit) × Unit) c154_L3 (b154_3 k) j ((), l_1, task1, out, t10, t11, ())
theorem L154_3_s (k : Nat) (j : Nat) (l_1 : Y5_11) (task1 : Int) (out : Y5_11) (t10 : Int) (t11 : Int) : L154_3 k (j + 1) l_1 task1 out t10 t11 = l154_3 k (L154_3 k j) l_1 task1 out t10 t11 := iter_succ _ _ _ _
noncomputable def S154 (k : Nat) (l_ : Y5_11) (task : Int) : Option Y5_12 :=
 (S194 k l_).bind fun q0 =>
 L154_3 k k l_ task q0.1.1 (q0.1.1.length : Int) 0
noncomputable def E154 : Env := tab.env (lk [(194, F194), (195, F195)]) (hintL [])
theorem E154_ok : EnvOK Tryz.prog E154 := envOK_of tabOK _ _ (allFn_lk (l := [(194, F194), (195, F195)]) ⟨ok194, ok195, trivial⟩)
noncomputable def B154 (k : Nat) : Tbl (RD R154 × MD P154) := (.loop 3 c154_L3 (b154_3 k) (fun g => .nil) .nil)
noncomputable def F154 : Fn := ⟨P154, R154, fun k x => S154 k x.1 x.2.1⟩
theorem ok154 : FnOK Tryz.prog 154 F154 := evalF_ok (E := E154) (T := B154) E154_ok mix Tryz.func154 rfl (by kernel_rfl) (by kernel_rfl) (fun k => by kernel_rfl) (fun k x => by kernel_rfl)
noncomputable abbrev P39a : List PT := [.mbox 150 [.cell (.int .i64), .cell (.int .i64), .own 77 Y5_3, .own 96 (arrT 5 (.int .i64)), .cell .bool, .cell .bool, .cell .bool, .cell (.sl 94 Y5_1), .own 3 (.int .i64), .own 4 .bool, .own 124 Y5_4, .own 3 (.int .i64), .own 4 .bool, .own 82 (arrT 6 (.int .i64))], .val ⟨false, (.sl 114 Y5_8), false⟩]
noncomputable abbrev R39a : List RT := []
noncomputable abbrev c39a_L1 : Cut := ⟨[0, 1, 11, 12, 13], [.pin false 0, .cell (.sl 114 Y5_8), .own 3 (.int .i64), .cell (.int .i64), .cell (.int .i64)], [.mbox 150 [.cell (.int .i64), .cell (.int .i64), .own 77 Y5_3, .own 96 (arrT 5 (.int .i64)), .cell .bool, .cell .bool, .cell .bool, .cell (.sl 94 Y5_1), .own 3 (.int .i64), .own 4 .bool, .own 124 Y5_4, .own 3 (.int .i64), .own 4 .bool, .own 82 (arrT 6 (.int .i64))]], 55, []⟩
noncomputable def l39a_1 (k : Nat) (g1 : Int → Int → (List Y5_5) → (List (PN Int 5)) → Bool → Bool → Bool → (List Y5_2) → (List Int) → (List Bool) → (List Y5_6) → (List Int) → (List Bool) → (List (PN Int 6)) → Y5_10 → (List Int) → Int → Int → Option Y5_13) (k_14 : Int) (k_15 : Int) (k_16 : List Y5_5) (k_17 : List (PN Int 5)) (k_18 : Bool) (k_19 : Bool) (k_20 : Bool) (k_21 : List Y5_2) (k_22 : List Int) (k_23 : List Bool) (k_24 : List Y5_6) (k_25 : List Int) (k_26 : List Bool) (k_27 : List (PN Int 6)) (l_1 : Y5_11) (t11 : List Int) (t12 : Int) (t13 : Int) : Option Y5_13 :=
 (bif decide (t13 < t12) then
  ix t11 t13 <|
  ix k_24 (rd t11 t13 0) <|
  (bif decide (t13 < (l_1.length : Int)) then
   ix l_1 t13 <|
   (bif !(beqD Y5_8 (rd k_24 (rd t11 t13 0) (0, (0, 0), (0, 0), ([], []), (0, []), 0)).2.2.1 (rd l_1 t13 (0, 0))) then
    ix l_1 t13 <|
    (S82 k ((k_22, k_23), k_24) (rd t11 t13 0) ((rd k_24 (rd t11 t13 0) (0, (0, 0), (0, 0), ([], []), (0, []), 0)).1, (rd k_24 (rd t11 t13 0) (0, (0, 0), (0, 0), ([], []), (0, []), 0)).2.1, rd l_1 t13 (0, 0), (rd k_24 (rd t11 t13 0) (0, (0, 0), (0, 0), ([], []), (0, []), 0)).2.2.2)).bind fun q1 =>
    g1 k_14 k_15 k_16 k_17 k_18 k_19 k_20 k_21 q1.1.1.1.1 q1.1.1.1.2 q1.1.1.2 k_25 k_26 k_27 l_1 t11 t12 (IntKind.i64.wrap (t13 + 1))
   else
    g1 k_14 k_15 k_16 k_17 k_18 k_19 k_20 k_21 k_22 k_23 k_24 k_25 k_26 k_27 l_1 t11 t12 (IntKind.i64.wrap (t13 + 1)))
  else
   g1 k_14 k_15 k_16 k_17 k_18 k_19 k_20 k_21 k_22 k_23 k_24 k_25 k_26 k_27 l_1 t11 t12 (IntKind.i64.wrap (t13 + 1)))
 else
  some ((), (k_14, k_15, k_16, k_17, k_18, k_19, k_20, k_21, k_22, k_23, k_24, k_25, k_26, k_27, ()), ()))
noncomputable def b39a_1 (k : Nat) (g : ((Y5_0 × Unit) × Unit × Y5_10 × (List Int) × Int × Int × Unit) → Option Y5_13) (d : (Y5_0 × Unit) × Unit × Y5_10 × (List Int) × Int × Int × Unit) : Option Y5_13 := l39a_1 k (fun k_14 k_15 k_16 k_17 k_18 k_19 k_20 k_21 k_22 k_23 k_24 k_25 k_26 k_27 l_1 t11 t12 t13 => g (((k_14, k_15, k_16, k_17, k_18, k_19, k_20, k_21, k_22, k_23, k_24, k_25, k_26, k_27, ()), ()), (), l_1, t11, t12, t13, ())) d.1.1.1 d.1.1.2.1 d.1.1.2.2.1 d.1.1.2.2.2.1 d.1.1.2.2.2.2.1 d.1.1.2.2.2.2.2.1 d.1.1.2.2.2.2.2.2.1 d.1.1.2.2.2.2.2.2.2.1 d.1.1.2.2.2.2.2.2.2.2.1 d.1.1.2.2.2.2.2.2.2.2.2.1 d.1.1.2.2.2.2.2.2.2.2.2.2.1 d.1.1.2.2.2.2.2.2.2.2.2.2.2.1 d.1.1.2.2.2.2.2.2.2.2.2.2.2.2.1 d.1.1.2.2.2.2.2.2.2.2.2.2.2.2.2.1 d.2.2.1 d.2.2.2.1 d.2.2.2.2.1 d.2.2.2.2.2.1
noncomputable def L39a_1 (k : Nat) (j : Nat) (k_14 : Int) (k_15 : Int) (k_16 : List Y5_5) (k_17 : List (PN Int 5)) (k_18 : Bool) (k_19 : Bool) (k_20 : Bool) (k_21 : List Y5_2) (k_22 : List Int) (k_23 : List Bool) (k_24 : List Y5_6) (k_25 : List Int) (k_26 : List Bool) (k_27 : List (PN Int 6)) (l_1 : Y5_11) (t11 : List Int) (t12 : Int) (t13 : Int) : Option Y5_13 := iter (R := (Unit) × Y5_0 × Unit) c39a_L1 (b39a_1 k) j (((k_14, k_15, k_16, k_17, k_18, k_19, k_20, k_21, k_22, k_23, k_24, k_25, k_26, k_27, ()), ()), (), l_1, t11, t12, t13, ())
theorem L39a_1_s (k : Nat) (j : Nat) (k_14 : Int) (k_15 : Int) (k_16 : List Y5_5) (k_17 : List (PN Int 5)) (k_18 : Bool) (k_19 : Bool) (k_20 : Bool) (k_21 : List Y5_2) (k_22 : List Int) (k_23 : List Bool) (k_24 : List Y5_6) (k_25 : List Int) (k_26 : List Bool) (k_27 : List (PN Int 6)) (l_1 : Y5_11) (t11 : List Int) (t12 : Int) (t13 : Int) : L39a_1 k (j + 1) k_14 k_15 k_16 k_17 k_18 k_19 k_20 k_21 k_22 k_23 k_24 k_25 k_26 k_27 l_1 t11 t12 t13 = l39a_1 k (L39a_1 k j) k_14 k_15 k_16 k_17 k_18 k_19 k_20 k_21 k_22 k_23 k_24 k_25 k_26 k_27 l_1 t11 t12 t13 := iter_succ _ _ _ _
noncomputable def S39a (k : Nat) (k_ : Int) (k_1 : Int) (k_2 : List Y5_5) (k_3 : List (PN Int 5)) (k_4 : Bool) (k_5 : Bool) (k_6 : Bool) (k_7 : List Y5_2) (k_8 : List Int) (k_9 : List Bool) (k_10 : List Y5_6) (k_11 : List Int) (k_12 : List Bool) (k_13 : List (PN Int 6)) (l_ : Y5_11) : Option Y5_13 :=
 (S73 k ((k_8, k_9), k_10)).bind fun q0 =>
 L39a_1 k k k_ k_1 k_2 k_3 k_4 k_5 k_6 k_7 k_8 k_9 k_10 k_11 k_12 k_13 l_ q0.1.1 (q0.1.1.length : Int) 0
noncomputable def E39a : Env := tab.env (lk [(73, F73), (82, F82)]) (hintL [])
theorem E39a_ok : EnvOK Tryz.prog E39a := envOK_of tabOK _ _ (allFn_lk (l := [(73, F73), (82, F82)]) ⟨ok73, ok82, trivial⟩)
noncomputable def B39a (k : Nat) : Tbl (RD R39a × MD P39a) := (.loop 1 c39a_L1 (b39a_1 k) (fun g => .nil) .nil)
noncomputable def F39a : Fn := ⟨P39a, R39a, fun k x => S39a k x.1.1 x.1.2.1 x.1.2.2.1 x.1.2.2.2.1 x.1.2.2.2.2.1 x.1.2.2.2.2.2.1 x.1.2.2.2.2.2.2.1 x.1.2.2.2.2.2.2.2.1 x.1.2.2.2.2.2.2.2.2.1 x.1.2.2.2.2.2.2.2.2.2.1 x.1.2.2.2.2.2.2.2.2.2.2.1 x.1.2.2.2.2.2.2.2.2.2.2.2.1 x.1.2.2.2.2.2.2.2.2.2.2.2.2.1 x.1.2.2.2.2.2.2.2.2.2.2.2.2.2.1 x.2.1⟩
theorem ok39a : FnOK Tryz.prog 39 F39a := evalF_ok (E := E39a) (T := B39a) E39a_ok mix Tryz.func39 rfl (by kernel_rfl) (by kernel_rfl) (fun k => by kernel_rfl) (fun k x => by kernel_rfl)
noncomputable abbrev P196 : List PT := [.val ⟨true, (.pair (.sl 3 (.int .i64)) (.sl 4 .bool)), false⟩, .val ⟨false, (.int .i64), false⟩]
noncomputable abbrev R196 : List RT := [.val ⟨false, .bool, true⟩]
noncomputable def S196 (k : Nat) (w : (List Int) × List Bool) (i : Int) : Option ((Bool × Unit) × Unit) :=
 (bif decide (i ≥ 0) then
  some ((decide (i < (mn (w.1.length : Int) (w.2.length : Int))), ()), ())
 else
  some ((false, ()), ()))
noncomputable def E196 : Env := tab.env (lk []) (hintL [])
theorem E196_ok : EnvOK Tryz.prog E196 := envOK_of tabOK _ _ (fun f F h => by cases h)
noncomputable def B196 (k : Nat) : Tbl (RD R196 × MD P196) := .nil
noncomputable def F196 : Fn := ⟨P196, R196, fun k x => S196 k x.1 x.2.1⟩
theorem ok196 : FnOK Tryz.prog 196 F196 := evalF_ok (E := E196) (T := B196) E196_ok mix Tryz.func196 rfl (by kernel_rfl) (by kernel_rfl) (fun k => by kernel_rfl) (fun k x => by kernel_rfl)
noncomputable abbrev P223 : List PT := [.val ⟨false, (.sl 4 .bool), false⟩, .val ⟨false, .bool, false⟩]
noncomputable abbrev R223 : List RT := [.val ⟨false, (.int .i64), true⟩]
noncomputable abbrev c223_L2 : Cut := ⟨[0, 1, 7, 8], [.cell (.sl 4 .bool), .cell .bool, .cell (.int .i64), .cell (.int .i64)], [], 19, []⟩
noncomputable def l223_2 (k : Nat) (g2 : (List Bool) → Bool → Int → Int → Option ((Int × Unit) × Unit)) (s1 : List Bool) (v1 : Bool) (t7 : Int) (t8 : Int) : Option ((Int × Unit) × Unit) :=
 (bif decide (t8 < t7) then
  ix s1 t8 <|
  (bif v1 == (rd s1 t8 false) then
   some ((t8, ()), ())
  else
   g2 s1 v1 t7 (IntKind.i64.wrap (t8 + 1)))
 else
  some (((-1), ()), ()))
noncomputable def b223_2 (k : Nat) (g : ((Unit) × (List Bool) × Bool × Int × Int × Unit) → Option ((Int × Unit) × Unit)) (d : (Unit) × (List Bool) × Bool × Int × Int × Unit) : Option ((Int × Unit) × Unit) := l223_2 k (fun s1 v1 t7 t8 => g ((), s1, v1, t7, t8, ())) d.2.1 d.2.2.1 d.2.2.2.1 d.2.2.2.2.1
noncomputable def L223_2 (k : Nat) (j : Nat) (s1 : List Bool) (v1 : Bool) (t7 : Int) (t8 : Int) : Option ((Int × Unit) × Unit) := iter (R := (Int × Unit) × Unit) c223_L2 (b223_2 k) j ((), s1, v1, t7, t8, ())
theorem L223_2_s (k : Nat) (j : Nat) (s1 : List Bool) (v1 : Bool) (t7 : Int) (t8 : Int) : L223_2 k (j + 1) s1 v1 t7 t8 = l223_2 k (L223_2 k j) s1 v1 t7 t8 := iter_succ _ _ _ _
noncomputable def S223 (k : Nat) (s : List Bool) (v : Bool) : Option ((Int × Unit) × Unit) :=
 L223_2 k k s v (s.length : Int) 0
noncomputable def E223 : Env := tab.env (lk []) (hintL [])
theorem E223_ok : EnvOK Tryz.prog E223 := envOK_of tabOK _ _ (fun f F h => by cases h)
noncomputable def B223 (k : Nat) : Tbl (RD R223 × MD P223) := (.loop 2 c223_L2 (b223_2 k) (fun g => .nil) .nil)
noncomputable def F223 : Fn := ⟨P223, R223, fun k x => S223 k x.1 x.2.1⟩
theorem ok223 : FnOK Tryz.prog 223 F223 := evalF_ok (E := E223) (T := B223) E223_ok mix Tryz.func223 rfl (by kernel_rfl) (by kernel_rfl) (fun k => by kernel_rfl) (fun k x => by kernel_rfl)
noncomputable abbrev P197 : List PT := [.val ⟨false, (.sl 4 .bool), false⟩, .val ⟨false, .bool, false⟩]
noncomputable abbrev R197 : List RT := [.val ⟨false, .bool, true⟩]
noncomputable def S197 (k : Nat) (s : List Bool) (v : Bool) : Option ((Bool × Unit) × Unit) :=
 (S223 k s v).bind fun q0 =>
 some ((decide (q0.1.1 ≥ 0), ()), ())
noncomputable def E197 : Env := tab.env (lk [(223, F223)]) (hintL [])
theorem E197_ok : EnvOK Tryz.prog E197 := envOK_of tabOK _ _ (allFn_lk (l := [(223, F223)]) ⟨ok223, trivial⟩)
noncomputable def B197 (k : Nat) : Tbl (RD R197 × MD P197) := .nil
noncomputable def F197 : Fn := ⟨P197, R197, fun k x => S197 k x.1 x.2.1⟩
theorem ok197 : FnOK Tryz.prog 197 F197 := evalF_ok (E := E197) (T := B197) E197_ok mix Tryz.func197 rfl (by kernel_rfl) (by kernel_rfl) (fun k => by kernel_rfl) (fun k x => by kernel_rfl)
noncomputable abbrev P155 : List PT := [.val ⟨true, (.pair (.sl 3 (.int .i64)) (.sl 4 .bool)), false⟩, .val ⟨false, (.int .i64), false⟩]
noncomputable abbrev R155 : List RT := [.val ⟨true, (.pair (.sl 3 (.int .i64)) (.sl 4 .bool)), true⟩, .val ⟨false, .bool, true⟩, .val ⟨false, .bool, true⟩]
noncomputable def S155 (k : Nat) (w : (List Int) × List Bool) (i : Int) : Option ((((List Int) × List Bool) × Bool × Bool × Unit) × Unit) :=
 (S147 k w).bind fun q0 =>
 (S196 k w i).bind fun q1 =>
 (bif !q1.1.1 then
  some ((q0.1.1, false, false, ()), ())
 else
  ix q0.1.1.1 i <|
  ix q0.1.1.1 i <|
  ix (upd q0.1.1.1 i (IntKind.i64.wrap ((rd q0.1.1.1 i 0) + 1))) i <|
  (bif (rd (upd q0.1.1.1 i (IntKind.i64.wrap ((rd q0.1.1.1 i 0) + 1))) i 0) != 2 then
   some (((upd q0.1.1.1 i (IntKind.i64.wrap ((rd q0.1.1.1 i 0) + 1)), q0.1.1.2), false, false, ()), ())
  else
   ix q0.1.1.2 i <|
   (bif rd q0.1.1.2 i false then
    some (((upd q0.1.1.1 i (IntKind.i64.wrap ((rd q0.1.1.1 i 0) + 1)), q0.1.1.2), false, false, ()), ())
   else
    ix q0.1.1.2 i <|
    (S197 k (upd q0.1.1.2 i true) false).bind fun q2 =>
    some (((upd q0.1.1.1 i (IntKind.i64.wrap ((rd q0.1.1.1 i 0) + 1)), upd q0.1.1.2 i true), true, !q2.1.1, ()), ()))))
noncomputable def E155 : Env := tab.env (lk [(147, F147), (196, F196), (197, F197)]) (hintL [])
theorem E155_ok : EnvOK Tryz.prog E155 := envOK_of tabOK _ _ (allFn_lk (l := [(147, F147), (196, F196), (197, F197)]) ⟨ok147, ok196, ok197, trivial⟩)
noncomputable def B155 (k : Nat) : Tbl (RD R155 × MD P155) := .nil
noncomputable def F155 : Fn := ⟨P155, R155, fun k x => S155 k x.1 x.2.1⟩
theorem ok155 : FnOK Tryz.prog 155 F155 := evalF_ok (E := E155) (T := B155) E155_ok mix Tryz.func155 rfl (by kernel_rfl) (by kernel_rfl) (fun k => by kernel_rfl) (fun k x => by kernel_rfl)
end Go.Proofs.YtmmagcjlfcicfaaGreat.Ab
