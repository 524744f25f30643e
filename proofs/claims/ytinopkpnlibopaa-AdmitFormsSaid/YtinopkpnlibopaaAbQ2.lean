import Derived.Test.YtinopkpnlibopaaAbQ1
/- Contracts, printed by this session's own program gen.py. -/
set_option linter.unusedVariables false
set_option linter.unusedSimpArgs false
set_option maxRecDepth 100000
namespace Go.Proofs.Ytinopkpnlibopaa.Ab
open Go.RowKit
abbrev Y2_0 : Type := Int × Int × Int × (List (Int × Int × Int × Int)) × (List (Int × Int × Int × Int)) × List (Int × Int × Int × Int)
abbrev Y2_1 : Ty := .pair (.int .i64) (.pair (.int .i64) (.pair (.int .i64) (.pair (.sl 60 (.pair (.int .i64) (.pair (.int .i64) (.pair (.int .i64) (.int .i64))))) (.pair (.sl 60 (.pair (.int .i64) (.pair (.int .i64) (.pair (.int .i64) (.int .i64))))) (.sl 60 (.pair (.int .i64) (.pair (.int .i64) (.pair (.int .i64) (.int .i64)))))))))
abbrev Y2_2 : Type := List (Int × Int × Int × Int)
abbrev Y2_3 : Type := List (Int × Int)
abbrev Y2_4 : Ty := .pair (.int .i64) (.pair (.int .i64) (.pair (.int .i64) (.int .i64)))
abbrev Y2_5 : Type := (Int × Unit) × Unit
abbrev Y2_6 : Type := (List Y2_0) → Int → Int → Y2_3 → (List Y2_0) → Int → Int → Option Y2_5
abbrev Y2_7 : Type := Int × Int × Int × Y2_2 × Y2_2 × List (Int × Int × Int × Int)
abbrev Y2_8 : Ty := .pair (.int .i64) (.int .i64)
abbrev Y2_9 : Type := (List Y2_0) → Int → Int → Y2_3 → (List Y2_0) → Int → Int → Y2_3 → Int → Int → Option Y2_5
abbrev Y2_10 : Type := (Y2_3 × Unit) × Unit
abbrev Y2_11 : Type := (Y2_2 × Unit) × Unit
abbrev Y2_12 : Type := List (Int × Int × Int × Int)
abbrev Y2_13 : Type := (Bool × Unit) × Unit
abbrev Y2_14 : Type := List (Int × Int)
abbrev Y2_15 : Ty := .sl 36 Y2_1
noncomputable abbrev P49 : List PT := [.val ⟨false, Y2_15, false⟩, .pv (.clo 50 [.ref Y2_1])]
noncomputable abbrev R49 : List RT := [.val ⟨false, (.int .i64), true⟩]
noncomputable abbrev c49_L2 : Cut := ⟨[0, 1, 7, 8], [.cell Y2_15, .clo 50 [.ref Y2_1], .cell (.int .i64), .cell (.int .i64)], [], 19⟩
noncomputable def l49_2 (k : Nat) (g2 : (List Y2_0) → Y2_0 → Int → Int → Option Y2_5) (s1 : List Y2_0) (f1 : Y2_7) (t7 : Int) (t8 : Int) : Option Y2_5 :=
 (bif decide (t8 < t7) then
  ix s1 t8 <|
  (S50 k (rd s1 t8 (0, 0, 0, [], [], [])) f1).bind fun q0 =>
  (bif q0.1.1 then
   some ((t8, ()), ())
  else
   g2 s1 f1 t7 (IntKind.i64.wrap (t8 + 1)))
 else
  some (((-1), ()), ()))
noncomputable def b49_2 (k : Nat) (g : ((Unit) × (List Y2_0) × (Y2_0 × Unit) × Int × Int × Unit) → Option Y2_5) (d : (Unit) × (List Y2_0) × (Y2_0 × Unit) × Int × Int × Unit) : Option Y2_5 := l49_2 k (fun s1 f1 t7 t8 => g ((), s1, (f1, ()), t7, t8, ())) d.2.1 d.2.2.1.1 d.2.2.2.1 d.2.2.2.2.1
noncomputable def L49_2 (k : Nat) (j : Nat) (s1 : List Y2_0) (f1 : Y2_7) (t7 : Int) (t8 : Int) : Option Y2_5 := iter (R := (Int × Unit) × Unit) c49_L2 (b49_2 k) j ((), s1, (f1, ()), t7, t8, ())
theorem L49_2_s (k : Nat) (j : Nat) (s1 : List Y2_0) (f1 : Y2_7) (t7 : Int) (t8 : Int) : L49_2 k (j + 1) s1 f1 t7 t8 = l49_2 k (L49_2 k j) s1 f1 t7 t8 := iter_succ _ _ _ _
noncomputable def S49 (k : Nat) (s : List Y2_0) (f : Y2_7) : Option Y2_5 :=
 L49_2 k k s f (s.length : Int) 0
noncomputable def E49 : Env := tab.env (lk [(50, F50)]) (hintL [])
theorem E49_ok : EnvOK Try.prog E49 := envOK_of tabOK _ _ (allFn_lk (l := [(50, F50)]) ⟨ok50, trivial⟩)
noncomputable def B49 (k : Nat) : Tbl (RD R49 × MD P49) := (.loop 2 c49_L2 (b49_2 k) (fun g => .nil) .nil)
noncomputable def F49 : Fn := ⟨P49, R49, fun k x => S49 k x.1 x.2.1.1⟩
theorem ok49 : FnOK Try.prog 49 F49 := evalF_ok (E := E49) (T := B49) E49_ok mix Try.func49 rfl (by kernel_rfl) (by kernel_rfl) (fun k => by kernel_rfl) (fun k x => by kernel_rfl)
section
variable (w : World) {g n c i g2 m c2 : Nat}
theorem insF51_t : Try.prog.underlying 24 = some (.slice 36) ∧ Try.prog.underlying 3 = some (.int .i64) ∧ Try.prog.underlying 4 = some .bool ∧ Try.prog.follows .mixedOrders = true ∧ (∀ w, (Go.sizeOf 36).run Try.prog w = .ok 6 w) ∧ Try.f51.ntmps = 95 := ⟨by kernel_rfl, by kernel_rfl, by kernel_rfl, by kernel_rfl, fun w => by kernel_rfl, rfl⟩
theorem insF51_none {v u : Value} (hv : (∃ A n c, v = .slice A n c ∧ i ≤ n)) (hu : ∃ A c, u = .slice A m c) (hm : m = 0) : Calls Try.prog 51 #[v, .int .i64 i, u] w fun e w' => e = .returned v ∧ w' = w := by
 obtain ⟨t24, t3, t4, mixed, z36, hnt⟩ := insF51_t
 have u24 := run_underlying t24; have u3 := run_underlying t3; have u4 := run_underlying t4
 obtain ⟨A, n, c, rfl, hi⟩ := hv
 obtain ⟨A2, c2, rfl⟩ := hu
 have hi0 : (i : Int) ≤ (n : Int) := by omega
 have hz1 : (m : Int) = 0 := by omega
 cases A <;> (go_enter Try.func51, hnt; go_wp2 <;> (go_ret; exact ⟨rfl, rfl⟩))
theorem insF51_end {v : Value} {w' : World} {v' : Value} (hv : (∃ A c, v = .slice A n c)) (hm : 0 < m)
  (hr : ∀ ty, (Builtin.append_ #[24, 24] ty #[v, .slice (some ⟨g2, 0, none⟩) m c2]).run Try.prog w = .ok v' w') : Calls Try.prog 51 #[v, .int .i64 n, .slice (some ⟨g2, 0, none⟩) m c2] w fun e w1 => e = .returned v' ∧ w1 = w' := by
 obtain ⟨t24, t3, t4, mixed, z36, hnt⟩ := insF51_t
 have u24 := run_underlying t24; have u3 := run_underlying t3; have u4 := run_underlying t4
 have hz1 : ¬ ((m : Int) = 0) := by omega
 obtain ⟨A, c, rfl⟩ := hv
 go_enter Try.func51, hnt
 go_wp2_with (at_builtin; refine append_list rfl rfl _ _ rfl rfl (hr _) ?_)
 all_goals (go_ret; exact ⟨rfl, rfl⟩)
theorem insF51_shift {v' v'' : Value} {w' w'' : World} (hi : i < n) (hm : 0 < m) (hroom : n + m ≤ c) (hc63 : c ≤ 9223372036854775807)
  (hov : ∀ lb cb, (callFunc 69 #[.slice (some ⟨g2, 0, none⟩) m c2, .slice (some ⟨g, (i + m) * 6, none⟩) lb cb]).run Try.prog w = .ok (.value (.bool false)) w)
  (hcp1 : ∀ ty dc sc, (Builtin.copy_ #[24, 24] ty #[.slice (some ⟨g, (i + m) * 6, none⟩) (n + m - (i + m)) dc, .slice (some ⟨g, i * 6, none⟩) (n + m - i) sc]).run Try.prog w.drew = .ok v' w')
  (hcp2 : ∀ ty dc, (Builtin.copy_ #[24, 24] ty #[.slice (some ⟨g, i * 6, none⟩) (n + m - i) dc, .slice (some ⟨g2, 0, none⟩) m c2]).run Try.prog w' = .ok v'' w'') :
  Calls Try.prog 51 #[.slice (some ⟨g, 0, none⟩) n c, .int .i64 i, .slice (some ⟨g2, 0, none⟩) m c2] w fun e w1 => e = .returned (.slice (some ⟨g, 0, none⟩) (n + m) c) ∧ w1 = w'' := by
 obtain ⟨t24, t3, t4, mixed, z36, hnt⟩ := insF51_t
 have u24 := run_underlying t24; have u3 := run_underlying t3; have u4 := run_underlying t4
 have hz1 : ¬ ((m : Int) = 0) := by omega
 have hz2 : ¬ ((i : Int) = (n : Int)) := by omega
 have hw1 : IntKind.i64.wrap ((i : Int) + (m : Int)) = (i : Int) + (m : Int) := by rw [IntKind.wrap_i64]; omega
 have hb1 : (0 : Int) ≤ (i : Int) + (m : Int) := by omega
 have hin : i ≤ n := by omega
 have htn : ((i : Int) + (m : Int)).toNat = i + m := by omega
 have hb2 : ¬ (c = i + m) := by omega
 have hb3 : (i : Int) ≤ (n : Int) + (m : Int) := by omega
 have hb4 : ¬ (c = i) := by omega
 go_enter Try.func51, hnt
 go_wp2_with (simp only [hov])
 go_region_law_o (refine copy_step rfl rfl _ _ (by simp [Act.eval, Act.put]) (by simp [Act.eval, Act.put]) (hcp1 _ _ _) ?_)
 go_wp2_with (at_builtin; refine copy_list rfl rfl _ _ rfl rfl (hcp2 _ _) ?_)
 go_ret
 exact ⟨rfl, rfl⟩
theorem insF51_grow {h G : Nat} {v' v'' : Value} {w0 w' w'' : World} (hi : i < n) (hm : 0 < m) (hnc : n ≤ c) (hroom : c < n + m) (hc63 : n + m ≤ 140737488355328) (hG : n + m ≤ G) (hG63 : G ≤ 9223372036854775807)
  (hrz : ∀ ty, (Builtin.append_ #[24, 3] ty #[.slice (some ⟨g, 0, none⟩) i c, .int .i64 ((n : Int) + (m : Int) - (i : Int))]).run Try.prog w = .ok (.slice (some ⟨h, 0, none⟩) (n + m) G) w0)
  (hcp1 : ∀ ty dc, (Builtin.copy_ #[24, 24] ty #[.slice (some ⟨h, i * 6, none⟩) (n + m - i) dc, .slice (some ⟨g2, 0, none⟩) m c2]).run Try.prog w0 = .ok v' w')
  (hcp2 : ∀ ty dc sc, (Builtin.copy_ #[24, 24] ty #[.slice (some ⟨h, (i + m) * 6, none⟩) (n + m - (i + m)) dc, .slice (some ⟨g, i * 6, none⟩) (n - i) sc]).run Try.prog w'.drew = .ok v'' w'') :
  Calls Try.prog 51 #[.slice (some ⟨g, 0, none⟩) n c, .int .i64 i, .slice (some ⟨g2, 0, none⟩) m c2] w fun e w1 => e = .returned (.slice (some ⟨h, 0, none⟩) (n + m) G) ∧ w1 = w'' := by
 obtain ⟨t24, t3, t4, mixed, z36, hnt⟩ := insF51_t
 have u24 := run_underlying t24; have u3 := run_underlying t3; have u4 := run_underlying t4
 have hz1 : ¬ ((m : Int) = 0) := by omega
 have hz2 : ¬ ((i : Int) = (n : Int)) := by omega
 have hz3 : (c : Int) < (n : Int) + (m : Int) := by omega
 have hw1 : IntKind.i64.wrap ((i : Int) + (m : Int)) = (i : Int) + (m : Int) := by rw [IntKind.wrap_i64]; omega
 have hb1 : (0 : Int) ≤ (i : Int) + (m : Int) := by omega
 have hin : i ≤ n := by omega
 have htn : ((i : Int) + (m : Int)).toNat = i + m := by omega
 have hGi : ¬ (G = i) := by omega
 have hGim : ¬ (G = i + m) := by omega
 have hci : ¬ (c = i) := by omega
 have hb3 : (i : Int) ≤ (n : Int) := by omega
 go_enter Try.func51, hnt
 go_wp2_with (first
  | (at_builtin; refine append_list rfl rfl _ _ rfl rfl (hrz _) ?_)
  | (at_builtin; refine copy_list rfl rfl _ _ rfl rfl (hcp1 _ _) ?_))
 go_region_law_o (refine copy_step rfl rfl _ _ (by simp [Act.eval, Act.put]) (by simp [Act.eval, Act.put]) (hcp2 _ _ _) ?_)
 go_wp2
 go_ret
 exact ⟨rfl, rfl⟩
end
noncomputable abbrev P51 : List PT := insPs 36 Y2_1
noncomputable abbrev R51 : List RT := insRs 36 Y2_1
noncomputable def S51 (k : Nat) (xs : List Y2_0) (i : Int) (ys : List Y2_0) : Option (((List Y2_0) × Unit) × Unit) := insSem 96 36 Y2_1 k (xs, i, ys, ())
noncomputable def F51 : Fn := ⟨P51, R51, insSem 96 36 Y2_1⟩
noncomputable def E51 : Env := tab.env (fun _ => none) (fun _ => 0)
theorem E51_ok : EnvOK Try.prog E51 := envOK_of tabOK _ _ (fun f F h => by cases h)
theorem ok51 : FnOK Try.prog 51 F51 := by
 obtain ⟨i0, z, a1, a2, a3, a4, a5⟩ := (E51_ok.ty 36 (Y2_1) (by kernel_rfl)).info
 have b1 : E51.byt 36 = 96 := by kernel_rfl
 have b2 : Ty.sz (Y2_1) = 6 := rfl
 rw [b1] at a3
 have hz : z.cells.size = 6 := by rw [← Array.length_toList, a5, zeroV_len, b2]
 obtain ⟨t24, t3, t4, mixed, z36, hnt⟩ := insF51_t
 refine ins_ok Try.func51 rfl (by kernel_rfl) ?_
 rw [b2, ← a3]
 refine ins_all (S := 24) (z := z) t24 t3 a1 a4 (by rw [a2, b2]) hz (by decide) (by rw [a3]; decide) (fun w i m v u h1 h2 h3 => insF51_none w h1 h2 h3) (fun w n g2 m c2 v v' w' h1 h2 h3 => insF51_end w h1 h2 h3) (fun w g n c i g2 m c2 v' v'' w' w'' h1 h2 h3 h4 h5 h6 hne hg hg2 => insF51_shift w h1 h2 h3 h4 (fun lb cb => ?_) h5 h6) (fun w g n c i g2 m c2 h G v' v'' w0 w' w'' h1 h2 h3 h4 h5 h6 h7 h8 h9 h10 => insF51_grow w h1 h2 h3 h4 h5 h6 h7 h8 h9 h10)
 obtain ⟨cur, q1, q2⟩ := hg
 obtain ⟨cur2, q3⟩ := hg2
 rw [run_callFunc_extern Try.func69 (by kernel_rfl) (by kernel_rfl) (by kernel_rfl) (e := Extern.SlicesOverlaps.overlaps #[24, 24] #[4]) (by kernel_rfl), Lib.run_overlaps_apart w 24 4 36 t24 6 z36 ⟨g2, 0, none⟩ ⟨g, (i + m) * 6, none⟩ m c2 lb cb hne 36 36 cur2.size cur.size (by simp [World.shape?, q3]) (by simp [World.shape?, q1]) q2 (Kd.frozen_row q3 _) (Kd.frozen_row q3 _)]
 rfl
noncomputable abbrev P35 : List PT := [.val ⟨false, Y2_15, false⟩]
noncomputable abbrev R35 : List RT := [.val ⟨false, .bool, true⟩]
noncomputable abbrev c35_L2 : Cut := ⟨[0, 5, 6, 7], [.cell Y2_15, .cell Y2_15, .cell (.int .i64), .cell (.int .i64)], [], 31⟩
noncomputable def l35_2 (k : Nat) (g2 : (List Y2_0) → (List Y2_0) → Int → Int → Option Y2_13) (l_1 : List Y2_0) (t5 : List Y2_0) (t6 : Int) (t7 : Int) : Option Y2_13 :=
 (bif decide (t7 < t6) then
  ix t5 t7 <|
  (S47 k (rd t5 t7 (0, 0, 0, [], [], []))).bind fun q0 =>
  (bif q0.1.1 != 0 then
   some ((false, ()), ())
  else
   (bif decide (t7 > 0) then
    ix l_1 (IntKind.i64.wrap (t7 - 1)) <|
    (bif decide ((rd l_1 (IntKind.i64.wrap (t7 - 1)) (0, 0, 0, [], [], [])).1 ≥ (rd t5 t7 (0, 0, 0, [], [], [])).1) then
     some ((false, ()), ())
    else
     g2 l_1 t5 t6 (IntKind.i64.wrap (t7 + 1)))
   else
    g2 l_1 t5 t6 (IntKind.i64.wrap (t7 + 1))))
 else
  some ((true, ()), ()))
noncomputable def b35_2 (k : Nat) (g : ((Unit) × (List Y2_0) × (List Y2_0) × Int × Int × Unit) → Option Y2_13) (d : (Unit) × (List Y2_0) × (List Y2_0) × Int × Int × Unit) : Option Y2_13 := l35_2 k (fun l_1 t5 t6 t7 => g ((), l_1, t5, t6, t7, ())) d.2.1 d.2.2.1 d.2.2.2.1 d.2.2.2.2.1
noncomputable def L35_2 (k : Nat) (j : Nat) (l_1 : List Y2_0) (t5 : List Y2_0) (t6 : Int) (t7 : Int) : Option Y2_13 := iter (R := (Bool × Unit) × Unit) c35_L2 (b35_2 k) j ((), l_1, t5, t6, t7, ())
theorem L35_2_s (k : Nat) (j : Nat) (l_1 : List Y2_0) (t5 : List Y2_0) (t6 : Int) (t7 : Int) : L35_2 k (j + 1) l_1 t5 t6 t7 = l35_2 k (L35_2 k j) l_1 t5 t6 t7 := iter_succ _ _ _ _
noncomputable def S35 (k : Nat) (l_ : List Y2_0) : Option Y2_13 :=
 L35_2 k k l_ l_ (l_.length : Int) 0
noncomputable def E35 : Env := tab.env (lk [(47, F47)]) (hintL [])
theorem E35_ok : EnvOK Try.prog E35 := envOK_of tabOK _ _ (allFn_lk (l := [(47, F47)]) ⟨ok47, trivial⟩)
noncomputable def B35 (k : Nat) : Tbl (RD R35 × MD P35) := (.loop 2 c35_L2 (b35_2 k) (fun g => .nil) .nil)
noncomputable def F35 : Fn := ⟨P35, R35, fun k x => S35 k x.1⟩
theorem ok35 : FnOK Try.prog 35 F35 := evalF_ok (E := E35) (T := B35) E35_ok mix Try.func35 rfl (by kernel_rfl) (by kernel_rfl) (fun k => by kernel_rfl) (fun k x => by kernel_rfl)
noncomputable abbrev P74 : List PT := [.pv (.nil), .val ⟨false, (.int .i64), false⟩]
noncomputable abbrev R74 : List RT := [.val ⟨false, (.sl 73 Y2_8), true⟩]
noncomputable def S74 (k : Nat) (n : Int) : Option Y2_10 :=
 (bif decide (n < 0) then
  none
 else
  (bif decide ((IntKind.i64.wrap (n - 0)) > 0) then
   az ([] : List (Int × Int)) (IntKind.i64.wrap (n - 0)) 16 (0, 0) fun r0 =>
   sx r0 0 0 <|
   some ((r0.take 0, ()), ())
  else
   some (([], ()), ())))
noncomputable def E74 : Env := tab.env (lk []) (hintL [(25, 1)])
theorem E74_ok : EnvOK Try.prog E74 := envOK_of tabOK _ _ (fun f F h => by cases h)
noncomputable def B74 (k : Nat) : Tbl (RD R74 × MD P74) := .nil
noncomputable def F74 : Fn := ⟨P74, R74, fun k x => S74 k x.2.1⟩
theorem ok74 : FnOK Try.prog 74 F74 := evalF_ok (E := E74) (T := B74) E74_ok mix Try.func74 rfl (by kernel_rfl) (by kernel_rfl) (fun k => by kernel_rfl) (fun k x => by kernel_rfl)
noncomputable abbrev P55 : List PT := [.val ⟨false, (.sl 44 (.sl 73 Y2_8)), false⟩]
noncomputable abbrev R55 : List RT := [.val ⟨false, (.sl 73 Y2_8), true⟩]
noncomputable abbrev c55_L11 : Cut := ⟨[6, 25, 26, 27], [.own 73 Y2_8, .cell (.sl 44 (.sl 73 Y2_8)), .cell (.int .i64), .cell (.int .i64)], [], 36⟩
noncomputable def l55_11 (k : Nat) (g11 : Y2_3 → (List Y2_3) → Int → Int → Option Y2_10) (newslice : Y2_14) (t25 : List Y2_3) (t26 : Int) (t27 : Int) : Option Y2_10 :=
 (bif decide (t27 < t26) then
  ix t25 t27 <|
  ap newslice (rd t25 t27 []) 16 fun r1 =>
  g11 r1 t25 t26 (IntKind.i64.wrap (t27 + 1))
 else
  some ((newslice, ()), ()))
noncomputable def b55_11 (k : Nat) (g : ((Unit) × Y2_3 × (List Y2_3) × Int × Int × Unit) → Option Y2_10) (d : (Unit) × Y2_3 × (List Y2_3) × Int × Int × Unit) : Option Y2_10 := l55_11 k (fun newslice t25 t26 t27 => g ((), newslice, t25, t26, t27, ())) d.2.1 d.2.2.1 d.2.2.2.1 d.2.2.2.2.1
noncomputable def L55_11 (k : Nat) (j : Nat) (newslice : Y2_14) (t25 : List Y2_3) (t26 : Int) (t27 : Int) : Option Y2_10 := iter (R := (Y2_3 × Unit) × Unit) c55_L11 (b55_11 k) j ((), newslice, t25, t26, t27, ())
theorem L55_11_s (k : Nat) (j : Nat) (newslice : Y2_14) (t25 : List Y2_3) (t26 : Int) (t27 : Int) : L55_11 k (j + 1) newslice t25 t26 t27 = l55_11 k (L55_11 k j) newslice t25 t26 t27 := iter_succ _ _ _ _
noncomputable abbrev c55_L3 : Cut := ⟨[0, 3, 9, 10, 11], [.cell (.sl 44 (.sl 73 Y2_8)), .cell (.int .i64), .cell (.sl 44 (.sl 73 Y2_8)), .cell (.int .i64), .cell (.int .i64)], [], 36⟩
noncomputable def l55_3 (k : Nat) (g3 : (List Y2_3) → Int → (List Y2_3) → Int → Int → Option Y2_10) (slices1 : List Y2_3) (size : Int) (t9 : List Y2_3) (t10 : Int) (t11 : Int) : Option Y2_10 :=
 (bif decide (t11 < t10) then
  ix t9 t11 <|
  (bif decide ((IntKind.i64.wrap (size + ((rd t9 t11 []).length : Int))) < 0) then
   none
  else
   g3 slices1 (IntKind.i64.wrap (size + ((rd t9 t11 []).length : Int))) t9 t10 (IntKind.i64.wrap (t11 + 1)))
 else
  (S74 k size).bind fun q0 =>
  L55_11 k k q0.1.1 slices1 (slices1.length : Int) 0)
noncomputable def b55_3 (k : Nat) (g : ((Unit) × (List Y2_3) × Int × (List Y2_3) × Int × Int × Unit) → Option Y2_10) (d : (Unit) × (List Y2_3) × Int × (List Y2_3) × Int × Int × Unit) : Option Y2_10 := l55_3 k (fun slices1 size t9 t10 t11 => g ((), slices1, size, t9, t10, t11, ())) d.2.1 d.2.2.1 d.2.2.2.1 d.2.2.2.2.1 d.2.2.2.2.2.1
noncomputable def L55_3 (k : Nat) (j : Nat) (slices1 : List Y2_3) (size : Int) (t9 : List Y2_3) (t10 : Int) (t11 : Int) : Option Y2_10 := iter (R := (Y2_3 × Unit) × Unit) c55_L3 (b55_3 k) j ((), slices1, size, t9, t10, t11, ())
theorem L55_3_s (k : Nat) (j : Nat) (slices1 : List Y2_3) (size : Int) (t9 : List Y2_3) (t10 : Int) (t11 : Int) : L55_3 k (j + 1) slices1 size t9 t10 t11 = l55_3 k (L55_3 k j) slices1 size t9 t10 t11 := iter_succ _ _ _ _
noncomputable def S55 (k : Nat) (slices : List Y2_3) : Option Y2_10 :=
 L55_3 k k slices 0 slices (slices.length : Int) 0
noncomputable def E55 : Env := tab.env (lk [(74, F74)]) (hintL [])
theorem E55_ok : EnvOK Try.prog E55 := envOK_of tabOK _ _ (allFn_lk (l := [(74, F74)]) ⟨ok74, trivial⟩)
noncomputable def B55 (k : Nat) : Tbl (RD R55 × MD P55) := (.loop 11 c55_L11 (b55_11 k) (fun g => .nil) (.loop 3 c55_L3 (b55_3 k) (fun g => .nil) .nil))
noncomputable def F55 : Fn := ⟨P55, R55, fun k x => S55 k x.1⟩
theorem ok55 : FnOK Try.prog 55 F55 := evalF_ok (E := E55) (T := B55) E55_ok mix Try.func55 rfl (by kernel_rfl) (by kernel_rfl) (fun k => by kernel_rfl) (fun k x => by kernel_rfl)
noncomputable abbrev P36 : List PT := [.val ⟨true, Y2_1, false⟩]
noncomputable abbrev R36 : List RT := [.val ⟨false, (.int .i64), true⟩, .val ⟨false, (.int .i64), true⟩, .val ⟨false, (.sl 73 Y2_8), true⟩]
noncomputable def S36 (k : Nat) (t : Y2_7) : Option ((Int × Int × Y2_3 × Unit) × Unit) :=
 (S47 k t).bind fun q0 =>
 (bif q0.1.1 != 0 then
  some ((0, 0, [], ()), ())
 else
  (S54 k t.2.2.2.1).bind fun q1 =>
  (S54 k t.2.2.2.2.1).bind fun q2 =>
  (bif q2.1.2.1 then
   (S55 k ([q1.1.1.2.2, q2.1.1.2.2] : List Y2_3)).bind fun q3 =>
   some ((q1.1.1.1, q2.1.1.1, q3.1.1, ()), ())
  else
   (S55 k ([q1.1.1.2.2, q2.1.1.2.2] : List Y2_3)).bind fun q4 =>
   some ((q1.1.1.1, q1.1.1.2.1, q4.1.1, ()), ())))
noncomputable def E36 : Env := tab.env (lk [(47, F47), (54, F54), (55, F55)]) (hintL [])
theorem E36_ok : EnvOK Try.prog E36 := envOK_of tabOK _ _ (allFn_lk (l := [(47, F47), (54, F54), (55, F55)]) ⟨ok47, ok54, ok55, trivial⟩)
noncomputable def B36 (k : Nat) : Tbl (RD R36 × MD P36) := .nil
noncomputable def F36 : Fn := ⟨P36, R36, fun k x => S36 k x.1⟩
theorem ok36 : FnOK Try.prog 36 F36 := evalF_ok (E := E36) (T := B36) E36_ok mix Try.func36 rfl (by kernel_rfl) (by kernel_rfl) (fun k => by kernel_rfl) (fun k x => by kernel_rfl)
noncomputable abbrev P98 : List PT := [.pv (.nil), .val ⟨false, (.int .i64), false⟩]
noncomputable abbrev R98 : List RT := [.val ⟨false, (.sl 60 Y2_4), true⟩]
noncomputable def S98 (k : Nat) (n : Int) : Option Y2_11 :=
 (bif decide (n < 0) then
  none
 else
  (bif decide ((IntKind.i64.wrap (n - 0)) > 0) then
   az ([] : List (Int × Int × Int × Int)) (IntKind.i64.wrap (n - 0)) 32 (0, 0, 0, 0) fun r0 =>
   sx r0 0 0 <|
   some ((r0.take 0, ()), ())
  else
   some (([], ()), ())))
noncomputable def E98 : Env := tab.env (lk []) (hintL [(25, 1)])
theorem E98_ok : EnvOK Try.prog E98 := envOK_of tabOK _ _ (fun f F h => by cases h)
noncomputable def B98 (k : Nat) : Tbl (RD R98 × MD P98) := .nil
noncomputable def F98 : Fn := ⟨P98, R98, fun k x => S98 k x.2.1⟩
theorem ok98 : FnOK Try.prog 98 F98 := evalF_ok (E := E98) (T := B98) E98_ok mix Try.func98 rfl (by kernel_rfl) (by kernel_rfl) (fun k => by kernel_rfl) (fun k x => by kernel_rfl)
noncomputable abbrev P80 : List PT := [.val ⟨false, (.sl 34 (.sl 60 Y2_4)), false⟩]
noncomputable abbrev R80 : List RT := [.val ⟨false, (.sl 60 Y2_4), true⟩]
noncomputable abbrev c80_L11 : Cut := ⟨[6, 25, 26, 27], [.own 60 Y2_4, .cell (.sl 34 (.sl 60 Y2_4)), .cell (.int .i64), .cell (.int .i64)], [], 36⟩
noncomputable def l80_11 (k : Nat) (g11 : Y2_2 → (List Y2_2) → Int → Int → Option Y2_11) (newslice : Y2_12) (t25 : List Y2_2) (t26 : Int) (t27 : Int) : Option Y2_11 :=
 (bif decide (t27 < t26) then
  ix t25 t27 <|
  ap newslice (rd t25 t27 []) 32 fun r1 =>
  g11 r1 t25 t26 (IntKind.i64.wrap (t27 + 1))
 else
  some ((newslice, ()), ()))
noncomputable def b80_11 (k : Nat) (g : ((Unit) × Y2_2 × (List Y2_2) × Int × Int × Unit) → Option Y2_11) (d : (Unit) × Y2_2 × (List Y2_2) × Int × Int × Unit) : Option Y2_11 := l80_11 k (fun newslice t25 t26 t27 => g ((), newslice, t25, t26, t27, ())) d.2.1 d.2.2.1 d.2.2.2.1 d.2.2.2.2.1
noncomputable def L80_11 (k : Nat) (j : Nat) (newslice : Y2_12) (t25 : List Y2_2) (t26 : Int) (t27 : Int) : Option Y2_11 := iter (R := (Y2_2 × Unit) × Unit) c80_L11 (b80_11 k) j ((), newslice, t25, t26, t27, ())
theorem L80_11_s (k : Nat) (j : Nat) (newslice : Y2_12) (t25 : List Y2_2) (t26 : Int) (t27 : Int) : L80_11 k (j + 1) newslice t25 t26 t27 = l80_11 k (L80_11 k j) newslice t25 t26 t27 := iter_succ _ _ _ _
noncomputable abbrev c80_L3 : Cut := ⟨[0, 3, 9, 10, 11], [.cell (.sl 34 (.sl 60 Y2_4)), .cell (.int .i64), .cell (.sl 34 (.sl 60 Y2_4)), .cell (.int .i64), .cell (.int .i64)], [], 36⟩
noncomputable def l80_3 (k : Nat) (g3 : (List Y2_2) → Int → (List Y2_2) → Int → Int → Option Y2_11) (slices1 : List Y2_2) (size : Int) (t9 : List Y2_2) (t10 : Int) (t11 : Int) : Option Y2_11 :=
 (bif decide (t11 < t10) then
  ix t9 t11 <|
  (bif decide ((IntKind.i64.wrap (size + ((rd t9 t11 []).length : Int))) < 0) then
   none
  else
   g3 slices1 (IntKind.i64.wrap (size + ((rd t9 t11 []).length : Int))) t9 t10 (IntKind.i64.wrap (t11 + 1)))
 else
  (S98 k size).bind fun q0 =>
  L80_11 k k q0.1.1 slices1 (slices1.length : Int) 0)
noncomputable def b80_3 (k : Nat) (g : ((Unit) × (List Y2_2) × Int × (List Y2_2) × Int × Int × Unit) → Option Y2_11) (d : (Unit) × (List Y2_2) × Int × (List Y2_2) × Int × Int × Unit) : Option Y2_11 := l80_3 k (fun slices1 size t9 t10 t11 => g ((), slices1, size, t9, t10, t11, ())) d.2.1 d.2.2.1 d.2.2.2.1 d.2.2.2.2.1 d.2.2.2.2.2.1
noncomputable def L80_3 (k : Nat) (j : Nat) (slices1 : List Y2_2) (size : Int) (t9 : List Y2_2) (t10 : Int) (t11 : Int) : Option Y2_11 := iter (R := (Y2_2 × Unit) × Unit) c80_L3 (b80_3 k) j ((), slices1, size, t9, t10, t11, ())
theorem L80_3_s (k : Nat) (j : Nat) (slices1 : List Y2_2) (size : Int) (t9 : List Y2_2) (t10 : Int) (t11 : Int) : L80_3 k (j + 1) slices1 size t9 t10 t11 = l80_3 k (L80_3 k j) slices1 size t9 t10 t11 := iter_succ _ _ _ _
noncomputable def S80 (k : Nat) (slices : List Y2_2) : Option Y2_11 :=
 L80_3 k k slices 0 slices (slices.length : Int) 0
noncomputable def E80 : Env := tab.env (lk [(98, F98)]) (hintL [])
theorem E80_ok : EnvOK Try.prog E80 := envOK_of tabOK _ _ (allFn_lk (l := [(98, F98)]) ⟨ok98, trivial⟩)
noncomputable def B80 (k : Nat) : Tbl (RD R80 × MD P80) := (.loop 11 c80_L11 (b80_11 k) (fun g => .nil) (.loop 3 c80_L3 (b80_3 k) (fun g => .nil) .nil))
noncomputable def F80 : Fn := ⟨P80, R80, fun k x => S80 k x.1⟩
theorem ok80 : FnOK Try.prog 80 F80 := evalF_ok (E := E80) (T := B80) E80_ok mix Try.func80 rfl (by kernel_rfl) (by kernel_rfl) (fun k => by kernel_rfl) (fun k x => by kernel_rfl)
noncomputable abbrev P81 : List PT := [.val ⟨true, Y2_4, false⟩, .pv (.ref (.int .i64))]
noncomputable abbrev R81 : List RT := [.val ⟨false, .bool, true⟩]
noncomputable def S81 (k : Nat) (i : Int × Int × Int × Int) (x1 : Int) : Option Y2_13 :=
 (bif i.1 == 9 then
  some ((i.2.1 == x1, ()), ())
 else
  some ((false, ()), ()))
noncomputable def E81 : Env := tab.env (lk []) (hintL [])
theorem E81_ok : EnvOK Try.prog E81 := envOK_of tabOK _ _ (fun f F h => by cases h)
noncomputable def B81 (k : Nat) : Tbl (RD R81 × MD P81) := .nil
noncomputable def F81 : Fn := ⟨P81, R81, fun k x => S81 k x.1 x.2.1⟩
theorem ok81 : FnOK Try.prog 81 F81 := evalF_ok (E := E81) (T := B81) E81_ok mix Try.func81 rfl (by kernel_rfl) (by kernel_rfl) (fun k => by kernel_rfl) (fun k x => by kernel_rfl)
noncomputable abbrev P89c : List PT := [.val ⟨false, (.sl 60 Y2_4), false⟩, .pv (.clo 81 [.ref (.int .i64)])]
noncomputable abbrev R89c : List RT := [.val ⟨false, (.int .i64), true⟩]
noncomputable abbrev c89c_L2 : Cut := ⟨[0, 1, 7, 8], [.cell (.sl 60 Y2_4), .clo 81 [.ref (.int .i64)], .cell (.int .i64), .cell (.int .i64)], [], 19⟩
noncomputable def l89c_2 (k : Nat) (g2 : Y2_2 → Int → Int → Int → Option Y2_5) (s1 : Y2_12) (f1 : Int) (t7 : Int) (t8 : Int) : Option Y2_5 :=
 (bif decide (t8 < t7) then
  ix s1 t8 <|
  (S81 k (rd s1 t8 (0, 0, 0, 0)) f1).bind fun q0 =>
  (bif q0.1.1 then
   some ((t8, ()), ())
  else
   g2 s1 f1 t7 (IntKind.i64.wrap (t8 + 1)))
 else
  some (((-1), ()), ()))
noncomputable def b89c_2 (k : Nat) (g : ((Unit) × Y2_2 × (Int × Unit) × Int × Int × Unit) → Option Y2_5) (d : (Unit) × Y2_2 × (Int × Unit) × Int × Int × Unit) : Option Y2_5 := l89c_2 k (fun s1 f1 t7 t8 => g ((), s1, (f1, ()), t7, t8, ())) d.2.1 d.2.2.1.1 d.2.2.2.1 d.2.2.2.2.1
noncomputable def L89c_2 (k : Nat) (j : Nat) (s1 : Y2_12) (f1 : Int) (t7 : Int) (t8 : Int) : Option Y2_5 := iter (R := (Int × Unit) × Unit) c89c_L2 (b89c_2 k) j ((), s1, (f1, ()), t7, t8, ())
theorem L89c_2_s (k : Nat) (j : Nat) (s1 : Y2_12) (f1 : Int) (t7 : Int) (t8 : Int) : L89c_2 k (j + 1) s1 f1 t7 t8 = l89c_2 k (L89c_2 k j) s1 f1 t7 t8 := iter_succ _ _ _ _
noncomputable def S89c (k : Nat) (s : Y2_12) (f : Int) : Option Y2_5 :=
 L89c_2 k k s f (s.length : Int) 0
noncomputable def E89c : Env := tab.env (lk [(81, F81)]) (hintL [])
theorem E89c_ok : EnvOK Try.prog E89c := envOK_of tabOK _ _ (allFn_lk (l := [(81, F81)]) ⟨ok81, trivial⟩)
noncomputable def B89c (k : Nat) : Tbl (RD R89c × MD P89c) := (.loop 2 c89c_L2 (b89c_2 k) (fun g => .nil) .nil)
noncomputable def F89c : Fn := ⟨P89c, R89c, fun k x => S89c k x.1 x.2.1.1⟩
theorem ok89c : FnOK Try.prog 89 F89c := evalF_ok (E := E89c) (T := B89c) E89c_ok mix Try.func89 rfl (by kernel_rfl) (by kernel_rfl) (fun k => by kernel_rfl) (fun k x => by kernel_rfl)
noncomputable abbrev P79b : List PT := [.val ⟨false, (.sl 60 Y2_4), false⟩, .pv (.clo 81 [.ref (.int .i64)])]
noncomputable abbrev R79b : List RT := [.val ⟨false, .bool, true⟩]
noncomputable def S79b (k : Nat) (s : Y2_12) (f : Int) : Option Y2_13 :=
 (S89c k s f).bind fun q0 =>
 some ((decide (q0.1.1 ≥ 0), ()), ())
noncomputable def E79b : Env := tab.env (lk [(89, F89c)]) (hintL [])
theorem E79b_ok : EnvOK Try.prog E79b := envOK_of tabOK _ _ (allFn_lk (l := [(89, F89c)]) ⟨ok89c, trivial⟩)
noncomputable def B79b (k : Nat) : Tbl (RD R79b × MD P79b) := .nil
noncomputable def F79b : Fn := ⟨P79b, R79b, fun k x => S79b k x.1 x.2.1.1⟩
theorem ok79b : FnOK Try.prog 79 F79b := evalF_ok (E := E79b) (T := B79b) E79b_ok mix Try.func79 rfl (by kernel_rfl) (by kernel_rfl) (fun k => by kernel_rfl) (fun k x => by kernel_rfl)
noncomputable abbrev P78 : List PT := [.val ⟨true, Y2_1, false⟩, .pv (.ref (.int .i64))]
noncomputable abbrev R78 : List RT := [.val ⟨false, .bool, true⟩]
noncomputable def S78 (k : Nat) (t : Y2_7) (x1 : Int) : Option Y2_13 :=
 (S80 k ([t.2.2.2.1, t.2.2.2.2.1] : List Y2_2)).bind fun q0 =>
 (S79b k q0.1.1 x1).bind fun q1 =>
 some ((q1.1.1, ()), ())
noncomputable def E78 : Env := tab.env (lk [(79, F79b), (80, F80)]) (hintL [])
theorem E78_ok : EnvOK Try.prog E78 := envOK_of tabOK _ _ (allFn_lk (l := [(79, F79b), (80, F80)]) ⟨ok79b, ok80, trivial⟩)
noncomputable def B78 (k : Nat) : Tbl (RD R78 × MD P78) := .nil
noncomputable def F78 : Fn := ⟨P78, R78, fun k x => S78 k x.1 x.2.1⟩
theorem ok78 : FnOK Try.prog 78 F78 := evalF_ok (E := E78) (T := B78) E78_ok mix Try.func78 rfl (by kernel_rfl) (by kernel_rfl) (fun k => by kernel_rfl) (fun k x => by kernel_rfl)
noncomputable abbrev P49a : List PT := [.val ⟨false, Y2_15, false⟩, .pv (.clo 78 [.ref (.int .i64)])]
noncomputable abbrev R49a : List RT := [.val ⟨false, (.int .i64), true⟩]
noncomputable abbrev c49a_L2 : Cut := ⟨[0, 1, 7, 8], [.cell Y2_15, .clo 78 [.ref (.int .i64)], .cell (.int .i64), .cell (.int .i64)], [], 19⟩
noncomputable def l49a_2 (k : Nat) (g2 : (List Y2_0) → Int → Int → Int → Option Y2_5) (s1 : List Y2_0) (f1 : Int) (t7 : Int) (t8 : Int) : Option Y2_5 :=
 (bif decide (t8 < t7) then
  ix s1 t8 <|
  (S78 k (rd s1 t8 (0, 0, 0, [], [], [])) f1).bind fun q0 =>
  (bif q0.1.1 then
   some ((t8, ()), ())
  else
   g2 s1 f1 t7 (IntKind.i64.wrap (t8 + 1)))
 else
  some (((-1), ()), ()))
noncomputable def b49a_2 (k : Nat) (g : ((Unit) × (List Y2_0) × (Int × Unit) × Int × Int × Unit) → Option Y2_5) (d : (Unit) × (List Y2_0) × (Int × Unit) × Int × Int × Unit) : Option Y2_5 := l49a_2 k (fun s1 f1 t7 t8 => g ((), s1, (f1, ()), t7, t8, ())) d.2.1 d.2.2.1.1 d.2.2.2.1 d.2.2.2.2.1
noncomputable def L49a_2 (k : Nat) (j : Nat) (s1 : List Y2_0) (f1 : Int) (t7 : Int) (t8 : Int) : Option Y2_5 := iter (R := (Int × Unit) × Unit) c49a_L2 (b49a_2 k) j ((), s1, (f1, ()), t7, t8, ())
theorem L49a_2_s (k : Nat) (j : Nat) (s1 : List Y2_0) (f1 : Int) (t7 : Int) (t8 : Int) : L49a_2 k (j + 1) s1 f1 t7 t8 = l49a_2 k (L49a_2 k j) s1 f1 t7 t8 := iter_succ _ _ _ _
noncomputable def S49a (k : Nat) (s : List Y2_0) (f : Int) : Option Y2_5 :=
 L49a_2 k k s f (s.length : Int) 0
noncomputable def E49a : Env := tab.env (lk [(78, F78)]) (hintL [])
theorem E49a_ok : EnvOK Try.prog E49a := envOK_of tabOK _ _ (allFn_lk (l := [(78, F78)]) ⟨ok78, trivial⟩)
noncomputable def B49a (k : Nat) : Tbl (RD R49a × MD P49a) := (.loop 2 c49a_L2 (b49a_2 k) (fun g => .nil) .nil)
noncomputable def F49a : Fn := ⟨P49a, R49a, fun k x => S49a k x.1 x.2.1.1⟩
theorem ok49a : FnOK Try.prog 49 F49a := evalF_ok (E := E49a) (T := B49a) E49a_ok mix Try.func49 rfl (by kernel_rfl) (by kernel_rfl) (fun k => by kernel_rfl) (fun k x => by kernel_rfl)
noncomputable abbrev P58 : List PT := [.val ⟨false, Y2_15, false⟩, .val ⟨false, (.int .i64), false⟩]
noncomputable abbrev R58 : List RT := [.val ⟨false, (.int .i64), true⟩]
noncomputable def S58 (k : Nat) (l_ : List Y2_0) (s : Int) : Option Y2_5 :=
 (S49a k l_ s).bind fun q0 =>
 (bif decide (q0.1.1 < 0) then
  some ((8, ()), ())
 else
  some ((q0.1.1, ()), ()))
noncomputable def E58 : Env := tab.env (lk [(49, F49a)]) (hintL [])
theorem E58_ok : EnvOK Try.prog E58 := envOK_of tabOK _ _ (allFn_lk (l := [(49, F49a)]) ⟨ok49a, trivial⟩)
noncomputable def B58 (k : Nat) : Tbl (RD R58 × MD P58) := .nil
noncomputable def F58 : Fn := ⟨P58, R58, fun k x => S58 k x.1 x.2.1⟩
theorem ok58 : FnOK Try.prog 58 F58 := evalF_ok (E := E58) (T := B58) E58_ok mix Try.func58 rfl (by kernel_rfl) (by kernel_rfl) (fun k => by kernel_rfl) (fun k x => by kernel_rfl)
noncomputable abbrev P38 : List PT := [.val ⟨false, Y2_15, false⟩, .val ⟨false, (.int .i64), false⟩]
noncomputable abbrev R38 : List RT := [.val ⟨false, (.int .i64), true⟩]
noncomputable abbrev c38_J13 : Cut := ⟨[0, 1, 4, 5, 12, 16, 17, 18, 32, 33, 34], [.cell Y2_15, .cell (.int .i64), .cell (.int .i64), .mp 90 true (.int .i64) false (.int .i64), .box 73 [.cell (.int .i64), .cell (.int .i64)], .cell Y2_15, .cell (.int .i64), .cell (.int .i64), .own 73 Y2_8, .cell (.int .i64), .cell (.int .i64)], [], 70⟩
noncomputable def j38_13 (k : Nat) (g3 : Y2_6) (g8 : Y2_9) (l_3 : List Y2_0) (i3 : Int) (most2 : Int) (ceils2 : Y2_14) (x : Int) (x1 : Int) (t16_2 : List Y2_0) (t17_2 : Int) (t18_2 : Int) (t32_1 : Y2_14) (t33_1 : Int) (t34_1 : Int) : Option Y2_5 :=
 (bif decide ((mget (.int .i64) (.int .i64) x ceils2 0) ≤ i3) then
  g8 l_3 i3 (mx most2 x1) ceils2 t16_2 t17_2 t18_2 t32_1 t33_1 (IntKind.i64.wrap (t34_1 + 1))
 else
  g8 l_3 i3 most2 ceils2 t16_2 t17_2 t18_2 t32_1 t33_1 (IntKind.i64.wrap (t34_1 + 1)))
noncomputable abbrev c38_L8 : Cut := ⟨[0, 1, 4, 5, 16, 17, 18, 32, 33, 34], [.cell Y2_15, .cell (.int .i64), .cell (.int .i64), .mp 90 true (.int .i64) false (.int .i64), .cell Y2_15, .cell (.int .i64), .cell (.int .i64), .own 73 Y2_8, .cell (.int .i64), .cell (.int .i64)], [], 70⟩
noncomputable def l38_8 (k : Nat) (g3 : Y2_6) (g8 : Y2_9) (l_2 : List Y2_0) (i2 : Int) (most1 : Int) (ceils1 : Y2_14) (t16_1 : List Y2_0) (t17_1 : Int) (t18_1 : Int) (t32 : Y2_14) (t33 : Int) (t34 : Int) : Option Y2_5 :=
 (bif decide (t34 < t33) then
  ix t32 t34 <|
  (bif !(mhas (.int .i64) (.int .i64) (rd t32 t34 (0, 0)).1 ceils1) then
   (S58 k l_2 (rd t32 t34 (0, 0)).1).bind fun q1 =>
   j38_13 k g3 g8 l_2 i2 most1 (updD (.int .i64) (.int .i64) (rd t32 t34 (0, 0)).1 q1.1.1 ceils1) (rd t32 t34 (0, 0)).1 (rd t32 t34 (0, 0)).2 t16_1 t17_1 t18_1 t32 t33 t34
  else
   j38_13 k g3 g8 l_2 i2 most1 ceils1 (rd t32 t34 (0, 0)).1 (rd t32 t34 (0, 0)).2 t16_1 t17_1 t18_1 t32 t33 t34)
 else
  g3 l_2 i2 most1 ceils1 t16_1 t17_1 (IntKind.i64.wrap (t18_1 + 1)))
noncomputable def b38_8 (k : Nat) (g3 : Y2_6) (g : ((Unit) × (List Y2_0) × Int × Int × Y2_3 × (List Y2_0) × Int × Int × Y2_3 × Int × Int × Unit) → Option Y2_5) (d : (Unit) × (List Y2_0) × Int × Int × Y2_3 × (List Y2_0) × Int × Int × Y2_3 × Int × Int × Unit) : Option Y2_5 := l38_8 k g3 (fun l_2 i2 most1 ceils1 t16_1 t17_1 t18_1 t32 t33 t34 => g ((), l_2, i2, most1, ceils1, t16_1, t17_1, t18_1, t32, t33, t34, ())) d.2.1 d.2.2.1 d.2.2.2.1 d.2.2.2.2.1 d.2.2.2.2.2.1 d.2.2.2.2.2.2.1 d.2.2.2.2.2.2.2.1 d.2.2.2.2.2.2.2.2.1 d.2.2.2.2.2.2.2.2.2.1 d.2.2.2.2.2.2.2.2.2.2.1
noncomputable def L38_8 (k : Nat) (g3 : Y2_6) (j : Nat) (l_2 : List Y2_0) (i2 : Int) (most1 : Int) (ceils1 : Y2_14) (t16_1 : List Y2_0) (t17_1 : Int) (t18_1 : Int) (t32 : Y2_14) (t33 : Int) (t34 : Int) : Option Y2_5 := iter (R := (Int × Unit) × Unit) c38_L8 (b38_8 k g3) j ((), l_2, i2, most1, ceils1, t16_1, t17_1, t18_1, t32, t33, t34, ())
theorem L38_8_s (k : Nat) (g3 : Y2_6) (j : Nat) (l_2 : List Y2_0) (i2 : Int) (most1 : Int) (ceils1 : Y2_14) (t16_1 : List Y2_0) (t17_1 : Int) (t18_1 : Int) (t32 : Y2_14) (t33 : Int) (t34 : Int) : L38_8 k g3 (j + 1) l_2 i2 most1 ceils1 t16_1 t17_1 t18_1 t32 t33 t34 = l38_8 k g3 (L38_8 k g3 j) l_2 i2 most1 ceils1 t16_1 t17_1 t18_1 t32 t33 t34 := iter_succ _ _ _ _
noncomputable abbrev c38_L3 : Cut := ⟨[0, 1, 4, 5, 16, 17, 18], [.cell Y2_15, .cell (.int .i64), .cell (.int .i64), .mp 90 true (.int .i64) false (.int .i64), .cell Y2_15, .cell (.int .i64), .cell (.int .i64)], [], 70⟩
noncomputable def l38_3 (k : Nat) (g3 : Y2_6) (l_1 : List Y2_0) (i1 : Int) (most : Int) (ceils : Y2_14) (t16 : List Y2_0) (t17 : Int) (t18 : Int) : Option Y2_5 :=
 (bif decide (t18 < t17) then
  ix t16 t18 <|
  (bif t18 == i1 then
   g3 l_1 i1 most ceils t16 t17 (IntKind.i64.wrap (t18 + 1))
  else
   (S36 k (rd t16 t18 (0, 0, 0, [], [], []))).bind fun q0 =>
   L38_8 k g3 k l_1 i1 most ceils t16 t17 t18 q0.1.2.2.1 (q0.1.2.2.1.length : Int) 0)
 else
  some ((most, ()), ()))
noncomputable def b38_3 (k : Nat) (g : ((Unit) × (List Y2_0) × Int × Int × Y2_3 × (List Y2_0) × Int × Int × Unit) → Option Y2_5) (d : (Unit) × (List Y2_0) × Int × Int × Y2_3 × (List Y2_0) × Int × Int × Unit) : Option Y2_5 := l38_3 k (fun l_1 i1 most ceils t16 t17 t18 => g ((), l_1, i1, most, ceils, t16, t17, t18, ())) d.2.1 d.2.2.1 d.2.2.2.1 d.2.2.2.2.1 d.2.2.2.2.2.1 d.2.2.2.2.2.2.1 d.2.2.2.2.2.2.2.1
noncomputable def L38_3 (k : Nat) (j : Nat) (l_1 : List Y2_0) (i1 : Int) (most : Int) (ceils : Y2_14) (t16 : List Y2_0) (t17 : Int) (t18 : Int) : Option Y2_5 := iter (R := (Int × Unit) × Unit) c38_L3 (b38_3 k) j ((), l_1, i1, most, ceils, t16, t17, t18, ())
theorem L38_3_s (k : Nat) (j : Nat) (l_1 : List Y2_0) (i1 : Int) (most : Int) (ceils : Y2_14) (t16 : List Y2_0) (t17 : Int) (t18 : Int) : L38_3 k (j + 1) l_1 i1 most ceils t16 t17 t18 = l38_3 k (L38_3 k j) l_1 i1 most ceils t16 t17 t18 := iter_succ _ _ _ _
noncomputable def S38 (k : Nat) (l_ : List Y2_0) (i : Int) : Option Y2_5 :=
 L38_3 k k l_ i 0 ([] : List (Int × Int)) l_ (l_.length : Int) 0
noncomputable def E38 : Env := tab.env (lk [(36, F36), (58, F58)]) (hintL [])
theorem E38_ok : EnvOK Try.prog E38 := envOK_of tabOK _ _ (allFn_lk (l := [(36, F36), (58, F58)]) ⟨ok36, ok58, trivial⟩)
noncomputable def B38 (k : Nat) : Tbl (RD R38 × MD P38) := (.loop 3 c38_L3 (b38_3 k) (fun g => (fun (g3 : Y2_6) => (.loop 8 c38_L8 (b38_8 k g3) (fun g => (fun (g8 : Y2_9) => (.join 13 c38_J13 (fun d => j38_13 k g3 g8 d.2.1 d.2.2.1 d.2.2.2.1 d.2.2.2.2.1 d.2.2.2.2.2.1.1 d.2.2.2.2.2.1.2.1 d.2.2.2.2.2.2.1 d.2.2.2.2.2.2.2.1 d.2.2.2.2.2.2.2.2.1 d.2.2.2.2.2.2.2.2.2.1 d.2.2.2.2.2.2.2.2.2.2.1 d.2.2.2.2.2.2.2.2.2.2.2.1) .nil)) (fun l_2 i2 most1 ceils1 t16_1 t17_1 t18_1 t32 t33 t34 => g ((), l_2, i2, most1, ceils1, t16_1, t17_1, t18_1, t32, t33, t34, ()))) .nil)) (fun l_1 i1 most ceils t16 t17 t18 => g ((), l_1, i1, most, ceils, t16, t17, t18, ()))) .nil)
noncomputable def F38 : Fn := ⟨P38, R38, fun k x => S38 k x.1 x.2.1⟩
theorem ok38 : FnOK Try.prog 38 F38 := evalF_ok (E := E38) (T := B38) E38_ok mix Try.func38 rfl (by kernel_rfl) (by kernel_rfl) (fun k => by kernel_rfl) (fun k x => by kernel_rfl)
noncomputable abbrev P37 : List PT := [.mbox 68 [.cell (.int .i64), .cell .bool], .val ⟨false, (.int .i64), false⟩, .val ⟨false, (.int .i64), false⟩]
noncomputable abbrev R37 : List RT := []
noncomputable def S37 (k : Nat) (s : Int) (s1 : Bool) (times : Int) (v : Int) : Option ((Unit) × (Int × Bool × Unit) × Unit) :=
 (S56 k times v).bind fun q0 =>
 (S57 k s q0.1.1).bind fun q1 =>
 (bif s1 then
  some ((), (q1.1.1, true, ()), ())
 else
  (bif !q0.1.2.1 then
   some ((), (q1.1.1, true, ()), ())
  else
   some ((), (q1.1.1, !q1.1.2.1, ()), ())))
noncomputable def E37 : Env := tab.env (lk [(56, F56), (57, F57)]) (hintL [])
theorem E37_ok : EnvOK Try.prog E37 := envOK_of tabOK _ _ (allFn_lk (l := [(56, F56), (57, F57)]) ⟨ok56, ok57, trivial⟩)
noncomputable def B37 (k : Nat) : Tbl (RD R37 × MD P37) := .nil
noncomputable def F37 : Fn := ⟨P37, R37, fun k x => S37 k x.1.1 x.1.2.1 x.2.1 x.2.2.1⟩
theorem ok37 : FnOK Try.prog 37 F37 := evalF_ok (E := E37) (T := B37) E37_ok mix Try.func37 rfl (by kernel_rfl) (by kernel_rfl) (fun k => by kernel_rfl) (fun k x => by kernel_rfl)
end Go.Proofs.Ytinopkpnlibopaa.Ab
