import Derived.Test.YtinopkpnlibopaaQZAbJ0
import Derived.KernelRfl
/- The plain law, and what it hangs on. -/
/- How often, sums that may go beyond, rows. -/
namespace Go.Proofs.Ytinopkpnlibopaa.Ab
open Go.RowKit Tr
set_option linter.unusedSimpArgs false
set_option linter.unusedVariables false
def up (r v : Int) : Int := (r + v - 1) / v
theorem up_tdiv {r v : Int} (hr : 0 ≤ r) (hv : 1 ≤ v) : (if Int.tmod r v > 0 then Int.tdiv r v + 1 else Int.tdiv r v) = up r v := by
 rw [Int.tdiv_eq_ediv_of_nonneg hr, Int.tmod_eq_emod_of_nonneg hr]
 unfold up
 have h1 := Int.emod_nonneg r (show v ≠ 0 by omega)
 have h2 := Int.emod_lt_of_pos r (show 0 < v by omega)
 have h3 := Int.mul_ediv_add_emod r v
 split
 ·rename_i h
  have : r + v - 1 = (r % v - 1) + v * (r / v + 1) := by rw [Int.mul_add, Int.mul_one]; omega
  rw [this, Int.add_mul_ediv_left _ _ (by omega), Int.ediv_eq_zero_of_lt (a := r % v - 1) (b := v) (by omega) (by omega)]; omega
 ·have : r + v - 1 = (v - 1) + v * (r / v) := by omega
  rw [this, Int.add_mul_ediv_left _ _ (by omega), Int.ediv_eq_zero_of_lt (a := v - 1) (b := v) (by omega) (by omega)]; omega
theorem up_bd {r v : Int} (hr : 0 ≤ r) (hv : 1 ≤ v) : 0 ≤ up r v ∧ up r v ≤ r := by
 unfold up
 refine ⟨Int.ediv_nonneg (by omega) (by omega), ?_⟩
 rw [← Int.lt_add_one_iff]
 refine Int.ediv_lt_of_lt_mul (by omega) ?_
 have : (r + 1) * 1 ≤ (r + 1) * v := Int.mul_le_mul_of_nonneg_left hv (by omega)
 have : r * 1 ≤ r * v := Int.mul_le_mul_of_nonneg_left hv hr
 rw [Int.add_mul]; omega
theorem up_mono {r s v : Int} (h : r ≤ s) (hv : 1 ≤ v) : up r v ≤ up s v := Int.ediv_le_ediv (by omega) (by omega)
theorem tdiv_bd {r v : Int} (hr : 0 ≤ r) (hv : 1 ≤ v) : 0 ≤ Int.tdiv r v ∧ Int.tdiv r v ≤ r := by
 rw [Int.tdiv_eq_ediv_of_nonneg hr]
 exact ⟨Int.ediv_nonneg hr (by omega), Int.ediv_le_self _ hr⟩
theorem S59_eq (k : Nat) {a b : Int} (ha : 0 ≤ a ∧ a ≤ 4611686018427387904) (hb : 1 ≤ b) : S59 k a b = some ((up a b, true, ()), ()) := by
 have h := tdiv_bd ha.1 hb
 have e := up_tdiv ha.1 hb
 unfold S59
 rw [bif_f (by omega), bif_f (by omega), nz_ok (by omega), nz_ok (by omega), w64 (n := Int.tdiv a b) (by omega) (by omega), w64 (n := Int.tdiv a b + 1) (by omega) (by omega), ← e]
 split
 ·rename_i h1; rw [bif_t h1]
 ·rename_i h1; rw [bif_f h1]
theorem S39_eq (k : Nat) {a b : Int} (ha : 0 ≤ a ∧ a ≤ 4611686018427387904) (hb : 1 ≤ b) : S39 k a b = some ((up a b, ()), ()) := by
 unfold S39; rw [S59_eq k ha hb, Option.bind_some]
theorem S37_eq (k : Nat) {s t v : Int} (hs : 0 ≤ s) (ht : 0 ≤ t ∧ t ≤ 4611686018427387904) (hv : 0 ≤ v ∧ v ≤ 4611686018427387904) (h : s + t * v ≤ 4611686018427387904) : S37 k s false t v = some ((), (s + t * v, false, ()), ()) := by
 have h0 := Int.mul_nonneg ht.1 hv.1
 unfold S37
 rw [S56_ok k (by omega) (by omega) (by omega), Option.bind_some]
 simp only
 rw [S57_ok k hs h0 (by omega), Option.bind_some]
 rfl
noncomputable def badR (l : List Tk) (i : Nat) : Bool := (mayT (l.getD i t0) != 0) || (decide ((i : Int) > 0) && decide ((l.getD (i - 1) t0).1 ≥ (l.getD i t0).1))
noncomputable def rowT (l : List Tk) : Bool := !anyF (badR l) l.length 0
theorem S35_eq {k : Nat} (hk : 1000 ≤ k) {l : List Tk} (h : lightL l) : S35 k l = some ((rowT l, ()), ()) := by
 have hl := h.1
 unfold S35
 have := anyN (L := fun j i => L35_2 k j l l (l.length : Int) i) (n := l.length) (badR l) (some ((false, ()), ())) (some ((true, ()), ())) (fun j i hi => by
  have ht := h.2 _ (getD_mem (z := t0) hi)
  show L35_2 k (j + 1) l l (l.length : Int) (i : Int) = _
  rw [L35_2_s, l35_2, bif_t (by omega), ix_nat hi, rd_nat, show l.getD i (0, 0, 0, [], [], []) = l.getD i t0 from rfl, S47_eq hk ht.1, Option.bind_some, w64_nat (by omega)]
  unfold badR
  simp only
  cases mayT (l.getD i t0) != 0 with
  | true => rfl
  | false =>
   rw [cond_false, Bool.false_or]
   by_cases h0 : (i : Int) > 0
   ·rw [bif_t h0, w64 (n := (i : Int) - 1) (by omega) (by omega), show (i : Int) - 1 = ((i - 1 : Nat) : Int) by omega, ix_nat (by omega), rd_nat, decide_eq_true h0, Bool.true_and]
   ·rw [bif_f h0, decide_eq_false h0, Bool.false_and, cond_false]) (fun j => by
  show L35_2 k (j + 1) l l (l.length : Int) (l.length : Int) = _
  rw [L35_2_s, l35_2, bif_f (by omega)]) l.length 0 k (by omega) (by omega)
 refine Eq.trans this ?_
 unfold rowT
 cases anyF (badR l) l.length 0 <;> rfl
end Go.Proofs.Ytinopkpnlibopaa.Ab

/- What is reckoned of a row is small; the rounds. -/
namespace Go.Proofs.Ytinopkpnlibopaa.Ab
open Go.RowKit Tr
set_option linter.unusedSimpArgs false
set_option linter.unusedVariables false
theorem cst_small {l : List I4} (h : mayA l = true) : (1 ≤ (cst l).1 ∧ (cst l).1 ≤ 9600) ∧ (1 ≤ (cst l).2.1 ∧ (cst l).2.1 ≤ (cst l).1) ∧ ∀ e ∈ (cst l).2.2, 1 ≤ e.2 ∧ e.2 < (cst l).1 := by
 obtain ⟨t, ht, rfl, hl⟩ := good_is_tree h
 have hc := cost_small ht hl
 obtain ⟨b1, b2, b3, b4⟩ := piece_bound 1 (0, 0) ht (by omega) (by simp) (by simp)
 simp only [Int.one_mul, Int.zero_add] at b3 b4
 rw [cst_tree ht hl]
 refine ⟨by simp only; omega, by simp only; omega, fun e he => ?_⟩
 have := spans_bd ht e he
 simp only; omega
structure CoS (t : Tk) : Prop where
 per : 1 ≤ t.2.1 ∧ t.2.1 ≤ 16384
 en : 1 ≤ t.2.2.1 ∧ t.2.2.1 ≤ t.2.1
 cost : 1 ≤ (costsT t).1 ∧ (costsT t).1 ≤ t.2.2.1
 lost : 1 ≤ (costsT t).2.1 ∧ (costsT t).2.1 ≤ (costsT t).1
 spans : ∀ e ∈ (costsT t).2.2, 1 ≤ e.2 ∧ e.2 < (costsT t).1
theorem costs_small {t : Tk} (hz : mayT t = 0) : CoS t := by
 obtain ⟨_, z2, z3, z4, z5, z6, z7, z8, z9⟩ := mayT_zero.1 hz
 obtain ⟨m1, m2, m3⟩ := cst_small z4
 have hcosts : costsT t = ((cst t.2.2.2.1).1, bif mayA t.2.2.2.2.1 then (cst t.2.2.2.2.1).1 else (cst t.2.2.2.1).2.1, (cst t.2.2.2.1).2.2 ++ (cst t.2.2.2.2.1).2.2) := by unfold costsT; rw [if_pos hz]
 refine ⟨z2, z3, by rw [hcosts]; simp only; omega, ?_, fun e he => ?_⟩
 ·rw [hcosts]
  simp only
  cases h : mayA t.2.2.2.2.1 with
  | false => rw [cond_false]; omega
  | true => have := cst_small h; rw [cond_true]; omega
 ·rw [hcosts] at he ⊢
  simp only [List.mem_append] at he ⊢
  rcases he with q | q
  ·exact m3 e q
  ·cases h : mayA t.2.2.2.2.1 with
   | false => rw [cst_bad h] at q; cases q
   | true => have := (cst_small h).2.2 e q; omega
theorem mx_le {a b c : Int} (h1 : a ≤ c) (h2 : b ≤ c) : mx a b ≤ c := by unfold mx; split <;> omega
theorem spF_le {l : List Tk} {i b : Int} : ∀ (sp : List (Int × Int)) (m : Int), m ≤ b → (∀ e ∈ sp, e.2 ≤ b) → spF l i m sp ≤ b
 | [], m, h, _ => h
 | e :: r, m, h, hs => by
  rw [spF]
  refine spF_le r _ ?_ (fun x hx => hs x (by simp [hx]))
  cases decide (ceilT l e.1 ≤ i) with
  | true => exact mx_le h (hs e (by simp))
  | false => exact h
theorem byG_le {l : List Tk} {i b : Int} : ∀ (r : List Tk) (n : Nat) (m : Int), m ≤ b → (∀ t ∈ r, ∀ e ∈ (costsT t).2.2, e.2 ≤ b) → byG l i r n m ≤ b
 | [], n, m, h, _ => h
 | t :: r, n, m, h, hs => by
  rw [byG]
  refine byG_le r _ _ ?_ (fun x hx => hs x (by simp [hx]))
  cases (n : Int) == i with
  | true => exact h
  | false => exact spF_le _ m h (hs t (by simp))
theorem byT_bd {l : List Tk} (h : ∀ t ∈ l, CoS t) (i : Int) : 0 ≤ byT l i ∧ byT l i ≤ 16384 :=
 ⟨byG_ge l 0 0, byG_le l 0 0 (by omega) (fun t ht e he => by have q := h t ht; have := q.spans e he; have := q.cost; have := q.en; have := q.per; omega)⟩
def sumA (r : Int) : List (Int × Int) → Int
 | [] => 0
 | x :: l => up r x.1 * x.2 + sumA r l
noncomputable def pc1 (t : Tk) : Int × Int := (t.2.1, (costsT t).1)
noncomputable def lostG : Int → List Tk → Int
 | m, [] => m
 | m, t :: r => lostG (mx m (costsT t).2.1) r
noncomputable def firstT (l : List Tk) (i : Nat) : Int := (costsT (l.getD i t0)).1 + byT l (i : Int)
noncomputable def rightT (l : List Tk) (i : Nat) (apart r : Int) : Int := firstT l i + up r apart * lostG 0 (l.take (i + 1)) + sumA r ((l.take i).map pc1)
def respG (en : Int) (right : Int → Int) : Nat → Int → Int → Option (Int × Int × Int)
 | 0, _, _ => none
 | f + 1, r, n => if right r > en then some (0, 0, 14) else if right r = r then some (r, n, 0) else respG en right f (right r) (n + 1)
theorem sumA_nonneg {r : Int} (hr : 0 ≤ r) : ∀ {l : List (Int × Int)}, (∀ x ∈ l, 1 ≤ x.1 ∧ 0 ≤ x.2) → 0 ≤ sumA r l
 | [], _ => Int.le_refl _
 | x :: l, h => by
  have hx := h x (by simp)
  have := sumA_nonneg hr (l := l) (fun y hy => h y (by simp [hy]))
  have := Int.mul_nonneg (up_bd hr hx.1).1 hx.2
  rw [sumA]; omega
theorem sumA_mono {r s : Int} (h : r ≤ s) : ∀ {l : List (Int × Int)}, (∀ x ∈ l, 1 ≤ x.1 ∧ 0 ≤ x.2) → sumA r l ≤ sumA s l
 | [], _ => Int.le_refl _
 | x :: l, hl => by
  have hx := hl x (by simp)
  have := sumA_mono h (l := l) (fun y hy => hl y (by simp [hy]))
  have := Int.mul_le_mul_of_nonneg_right (up_mono h hx.1) hx.2
  rw [sumA, sumA]; omega
theorem sumA_le {r b : Int} (hr : 0 ≤ r) (hb : 0 ≤ b) : ∀ {l : List (Int × Int)}, (∀ x ∈ l, 1 ≤ x.1 ∧ 0 ≤ x.2 ∧ x.2 ≤ b) → sumA r l ≤ (l.length : Int) * (r * b)
 | [], _ => by simp [sumA]
 | x :: l, h => by
  have hx := h x (by simp)
  have h1 := sumA_le hr hb (l := l) (fun y hy => h y (by simp [hy]))
  have hu := up_bd hr hx.1
  have h2 : up r x.1 * x.2 ≤ r * b := Int.mul_le_mul hu.2 hx.2.2 hx.2.1 hr
  rw [sumA, List.length_cons, show ((l.length + 1 : Nat) : Int) = (l.length : Int) + 1 by omega, Int.add_mul, Int.one_mul]; omega
theorem resp_total {en : Int} {right : Int → Int} (hm : ∀ a b, 0 ≤ a → a ≤ b → right a ≤ right b) : ∀ (f : Nat) (r n : Int), 0 ≤ r → r ≤ right r → en - r < (f : Int) → 0 < f → ∃ x, respG en right f r n = some x
 | 0, r, n, _, _, _, h => absurd h (by omega)
 | f + 1, r, n, h0, h1, h2, _ => by
  rw [respG]
  split
  ·exact ⟨_, rfl⟩
  ·split
   ·exact ⟨_, rfl⟩
   ·rename_i h3 h4
    exact resp_total hm f (right r) (n + 1) (by omega) (hm r (right r) h0 h1) (by omega) (by omega)
end Go.Proofs.Ytinopkpnlibopaa.Ab

/- How long a task takes at most: the program's rounds. -/
namespace Go.Proofs.Ytinopkpnlibopaa.Ab
open Go.RowKit Tr
set_option linter.unusedSimpArgs false
set_option linter.unusedVariables false
structure RS (l : List Tk) : Prop where
 light : lightL l
 len : l.length ≤ 10
 co : ∀ t ∈ l, CoS t
theorem lostG_bd {b : Int} : ∀ (r : List Tk) (m : Int), 0 ≤ m → m ≤ b → (∀ t ∈ r, (costsT t).2.1 ≤ b) → 0 ≤ lostG m r ∧ lostG m r ≤ b
 | [], m, h0, h, _ => ⟨h0, h⟩
 | t :: r, m, h0, h, hs => by
  rw [lostG]
  exact lostG_bd r _ (Int.le_trans h0 (mx_ge _ _)) (mx_le h (hs t (by simp))) (fun x hx => hs x (by simp [hx]))
theorem RS.first {l : List Tk} (h : RS l) {i : Nat} (hi : i < l.length) : 1 ≤ firstT l i ∧ firstT l i ≤ 32768 := by
 have hc := h.co _ (getD_mem (z := t0) hi)
 have hb := byT_bd h.co (i : Int)
 have := hc.cost; have := hc.en; have := hc.per
 unfold firstT; omega
theorem RS.lost {l : List Tk} (h : RS l) (i : Nat) : 0 ≤ lostG 0 (l.take i) ∧ lostG 0 (l.take i) ≤ 16384 :=
 lostG_bd _ 0 (by omega) (by omega) (fun t ht => by have q := h.co t (List.mem_of_mem_take ht); have := q.lost; have := q.cost; have := q.en; have := q.per; omega)
theorem RS.pcs {l : List Tk} (h : RS l) (i : Nat) : ∀ x ∈ (l.take i).map pc1, 1 ≤ x.1 ∧ 0 ≤ x.2 ∧ x.2 ≤ 16384 := fun x hx => by
 obtain ⟨t, ht, rfl⟩ := List.mem_map.1 hx
 have q := h.co t (List.mem_of_mem_take ht)
 have := q.cost; have := q.en; have := q.per
 unfold pc1; simp only; omega
theorem RS.loss {l : List Tk} (h : RS l) {i : Nat} {apart r : Int} (ha : 1 ≤ apart) (hr : 0 ≤ r ∧ r ≤ 50000) : 0 ≤ up r apart * lostG 0 (l.take (i + 1)) ∧ up r apart * lostG 0 (l.take (i + 1)) ≤ 819200000 := by
 have hl := h.lost (i + 1)
 have hu := up_bd hr.1 ha
 have := Int.mul_nonneg hu.1 hl.1
 have : up r apart * lostG 0 (l.take (i + 1)) ≤ 50000 * 16384 := Int.mul_le_mul (by omega) hl.2 hl.1 (by omega)
 omega
theorem RS.sum {l : List Tk} (h : RS l) {i : Nat} {r : Int} (hr : 0 ≤ r ∧ r ≤ 50000) : 0 ≤ sumA r ((l.take i).map pc1) ∧ sumA r ((l.take i).map pc1) ≤ 8192000000 := by
 have h0 := sumA_nonneg hr.1 (l := (l.take i).map pc1) (fun x hx => ⟨(h.pcs i x hx).1, (h.pcs i x hx).2.1⟩)
 have h1 := sumA_le hr.1 (show (0 : Int) ≤ 16384 by omega) (h.pcs i)
 have hl : ((l.take i).map pc1).length ≤ 10 := by rw [List.length_map, List.length_take]; have := h.len; omega
 have h2 : (((l.take i).map pc1).length : Int) * (r * 16384) ≤ 10 * (r * 16384) := Int.mul_le_mul_of_nonneg_right (by omega) (by omega)
 omega
theorem RS.right {l : List Tk} (h : RS l) {i : Nat} (hi : i < l.length) {apart r : Int} (ha : 1 ≤ apart) (hr : 0 ≤ r ∧ r ≤ 50000) : firstT l i ≤ rightT l i apart r ∧ rightT l i apart r ≤ 100000000000 := by
 have h1 := h.first hi; have h2 := h.loss (i := i) ha hr; have h3 := h.sum (i := i) hr
 unfold rightT; omega
theorem L16_18_eq {k : Nat} (hk : 1000 ≤ k) {g : List Tk → Int → Int → Int → Int → Int → Int → Bool → Option ((Int × Int × Int × Unit) × Unit)} {l tk : List Tk} {i : Nat} (hi : i < l.length) {apart r rounds lost first : Int} (hr : 0 ≤ r ∧ r ≤ 50000) (htk : tk.length ≤ 100) (hs : ∀ t ∈ tk, lightT t ∧ CoS t) :
  ∀ (d n j : Nat) (x : Int), n + d = tk.length → d < j → 0 ≤ x → x + sumA r ((tk.drop n).map pc1) ≤ 100000000000 →
  L16_18 k g j l (i : Int) apart r rounds lost first false x false tk (tk.length : Int) (n : Int) = if x + sumA r ((tk.drop n).map pc1) > (l.getD i t0).2.2.1 then some ((0, 0, 14, ()), ()) else if x + sumA r ((tk.drop n).map pc1) = r then some ((r, rounds, 0, ()), ()) else g l (i : Int) apart (x + sumA r ((tk.drop n).map pc1)) rounds lost first false
 | 0, n, j, x, h, hj, hx, hb => by
  obtain ⟨j', rfl⟩ : ∃ j', j = j' + 1 := ⟨j - 1, by omega⟩
  rw [L16_18_s, l16_18, bif_f (by omega), drop_nil (by omega), cond_false, ix_nat hi, rd_nat, show l.getD i (0, 0, 0, [], [], []) = l.getD i t0 from rfl]
  simp only [List.map_nil, sumA, Int.add_zero]
  by_cases h1 : x > (l.getD i t0).2.2.1
  ·rw [bif_t h1, if_pos h1]
  ·rw [bif_f h1, if_neg h1]
   by_cases h2 : x = r
   ·rw [if_pos h2, show (x == r) = true by rw [h2]; exact beq_self_eq_true r, cond_true]
   ·rw [if_neg h2, show (x == r) = false by rw [beq_eq_false_iff_ne]; exact h2, cond_false]
 | d + 1, n, j, x, h, hj, hx, hb => by
  obtain ⟨j', rfl⟩ : ∃ j', j = j' + 1 := ⟨j - 1, by omega⟩
  have hn : n < tk.length := by omega
  obtain ⟨ht, hc⟩ := hs _ (getD_mem (z := t0) hn)
  have hper := hc.per
  have hu := up_bd hr.1 hper.1
  have hco := hc.cost; have hen := hc.en
  have hmul := Int.mul_nonneg hu.1 (show 0 ≤ (costsT (tk.getD n t0)).1 by omega)
  have hrest : 0 ≤ sumA r ((tk.drop (n + 1)).map pc1) := sumA_nonneg hr.1 (fun y hy => by
   obtain ⟨t, ht, rfl⟩ := List.mem_map.1 hy
   have q := (hs t (List.mem_of_mem_drop ht)).2
   have := q.cost; have := q.per
   unfold pc1; simp only; omega)
  rw [drop_cons t0 hn, List.map_cons, sumA] at hb ⊢
  unfold pc1 at hb ⊢
  simp only at hb ⊢
  have ih := L16_18_eq hk (g := g) hi (apart := apart) (rounds := rounds) (lost := lost) (first := first) hr htk hs d (n + 1) j' (x + up r (tk.getD n t0).2.1 * (costsT (tk.getD n t0)).1) (by omega) (by omega) (by omega) (by unfold pc1; omega)
  unfold pc1 at ih
  rw [L16_18_s, l16_18, bif_t (by omega), ix_nat hn, rd_nat, show tk.getD n (0, 0, 0, [], [], []) = tk.getD n t0 from rfl, S36_eq hk ht, Option.bind_some, S39_eq k (by omega) hper.1, Option.bind_some]
  simp only
  rw [S37_eq k hx (by omega) (by omega) (by unfold pc1 at hrest; omega), Option.bind_some, w64_nat (by omega), ← Int.add_assoc]
  exact ih
end Go.Proofs.Ytinopkpnlibopaa.Ab

/- How long a task takes at most: the program's answer. -/
namespace Go.Proofs.Ytinopkpnlibopaa.Ab
open Go.RowKit Tr
set_option linter.unusedSimpArgs false
set_option linter.unusedVariables false
theorem sub_take {α : Type} {l : List α} {i : Nat} : sub l 0 (i : Int) = l.take i := by simp [sub]
theorem right_mono {l : List Tk} (h : RS l) {i : Nat} {apart : Int} (ha : 1 ≤ apart) : ∀ a b, 0 ≤ a → a ≤ b → rightT l i apart a ≤ rightT l i apart b := fun a b h0 hab => by
 have h1 := Int.mul_le_mul_of_nonneg_right (up_mono hab ha) (h.lost (i + 1)).1
 have h2 := sumA_mono hab (l := (l.take i).map pc1) (fun x hx => ⟨(h.pcs i x hx).1, (h.pcs i x hx).2.1⟩)
 unfold rightT; omega
theorem row_may {l : List Tk} (h : rowT l = true) : ∀ t ∈ l, mayT t = 0 := fun t ht => by
 obtain ⟨j, hj, e⟩ := List.mem_iff_getElem.1 ht
 have e2 : l.getD j t0 = t := by rw [← e, List.getD_eq_getElem?_getD, List.getElem?_eq_getElem hj]; rfl
 unfold rowT at h
 rw [Bool.not_eq_true', anyF_none] at h
 have := h j (by omega) (by omega)
 unfold badR at this
 rw [Bool.or_eq_false_iff, e2] at this
 simpa using this.1
theorem row_rs {l : List Tk} (h : rowT l = true) (hL : lightL l) (hl : l.length ≤ 10) : RS l := ⟨hL, hl, fun t ht => costs_small (row_may h t ht)⟩
theorem L16_14_eq {k : Nat} (hk : 1000 ≤ k) {l : List Tk} (h : RS l) {i : Nat} (hi : i < l.length) {apart : Int} (ha : 1 ≤ apart) : ∀ (f j : Nat) (r n : Int) (y : Int × Int × Int), f ≤ j → 0 ≤ r → r ≤ 50000 → 1 ≤ n → n + f ≤ 1000000 → respG (l.getD i t0).2.2.1 (rightT l i apart) f r n = some y →
  L16_14 k j l (i : Int) apart r (n - 1) (lostG 0 (l.take (i + 1))) (firstT l i) false = some ((y.1, y.2.1, y.2.2, ()), ())
 | 0, j, r, n, y, _, _, _, _, _, e => by cases e
 | f + 1, j, r, n, y, hj, h0, h1, hn, hf, e => by
  obtain ⟨j', rfl⟩ : ∃ j', j = j' + 1 := ⟨j - 1, by omega⟩
  have hfi := h.first hi
  have hls := h.lost (i + 1)
  have hlo := h.loss (i := i) ha ⟨h0, h1⟩
  have hsu := h.sum (i := i) ⟨h0, h1⟩
  have hu := up_bd h0 ha
  have hen := (h.co _ (getD_mem (z := t0) hi)).en
  have hper := (h.co _ (getD_mem (z := t0) hi)).per
  have hlen := h.len
  rw [L16_14_s, l16_14, S39_eq k (by omega) ha, Option.bind_some]
  simp only
  rw [S37_eq k (by omega) (by omega) (by omega) (by omega), Option.bind_some, sx_ok (by omega) (by omega) (by omega), w64 (n := n - 1 + 1) (by omega) (by omega), show n - 1 + 1 = n by omega, sub_take]
  have htl : (l.take i).length ≤ 100 := by rw [List.length_take]; omega
  have := L16_18_eq hk (g := L16_14 k j') hi (tk := l.take i) (apart := apart) (rounds := n) (lost := lostG 0 (l.take (i + 1))) (first := firstT l i) (r := r) ⟨h0, h1⟩ htl (fun t ht => ⟨(h.light.2 t (List.mem_of_mem_take ht)).1, h.co t (List.mem_of_mem_take ht)⟩) (l.take i).length 0 k (firstT l i + up r apart * lostG 0 (l.take (i + 1))) (by omega) (by omega) (by omega) (by rw [List.drop_zero]; omega)
  refine Eq.trans this ?_
  rw [List.drop_zero, show firstT l i + up r apart * lostG 0 (l.take (i + 1)) + sumA r ((l.take i).map pc1) = rightT l i apart r from rfl]
  rw [respG] at e
  split at e
  ·rename_i q
   injection e with e; subst e
   rw [if_pos q]
  ·rename_i q
   rw [if_neg q]
   split at e
   ·rename_i q2
    injection e with e; subst e
    rw [if_pos q2]
   ·rename_i q2
    rw [if_neg q2]
    have hr := h.right hi ha ⟨h0, h1⟩
    have := L16_14_eq hk h hi ha f j' (rightT l i apart r) (n + 1) y (by omega) (by omega) (by omega) (by omega) (by omega) e
    rw [show n + 1 - 1 = n by omega] at this
    exact this
noncomputable def respT (l : List Tk) (i apart : Int) : Int × Int × Int :=
 if rowT l = true ∧ 0 ≤ i ∧ i < (l.length : Int) ∧ 1 ≤ apart then (respG (l.getD i.toNat t0).2.2.1 (rightT l i.toNat apart) 20000 (firstT l i.toNat) 1).getD (0, 0, 0) else (0, 0, 1)
theorem resp_some {l : List Tk} (h : RS l) {i : Nat} (hi : i < l.length) {apart : Int} (ha : 1 ≤ apart) : ∃ y, respG (l.getD i t0).2.2.1 (rightT l i apart) 20000 (firstT l i) 1 = some y := by
 have hf := h.first hi
 have hen := (h.co _ (getD_mem (z := t0) hi)).en
 have hper := (h.co _ (getD_mem (z := t0) hi)).per
 exact resp_total (right_mono h ha) 20000 _ 1 (by omega) (h.right hi ha (by omega)).1 (by omega) (by omega)
theorem respT_at {l : List Tk} (hr : rowT l = true) {i : Nat} (hi : i < l.length) {apart : Int} (ha : 1 ≤ apart) {y : Int × Int × Int} (hy : respG (l.getD i t0).2.2.1 (rightT l i apart) 20000 (firstT l i) 1 = some y) : respT l (i : Int) apart = y := by
 unfold respT
 rw [if_pos ⟨hr, by omega, by omega, ha⟩, Int.toNat_natCast, hy]; rfl
theorem L16_6_eq {k : Nat} (hk : 20000 ≤ k) {l : List Tk} (hrow : rowT l = true) (h : RS l) {i : Nat} (hi : i < l.length) {apart : Int} (ha : 1 ≤ apart) : ∀ (d n j : Nat) (m : Int), n + d = (l.take (i + 1)).length → d < j → lostG m ((l.take (i + 1)).drop n) = lostG 0 (l.take (i + 1)) →
  L16_6 k j l (i : Int) apart 0 (costsT (l.getD i t0)).1 m (l.take (i + 1)) ((l.take (i + 1)).length : Int) (n : Int) = some (((respT l i apart).1, (respT l i apart).2.1, (respT l i apart).2.2, ()), ())
 | 0, n, j, m, h1, hj, hm => by
  obtain ⟨j', rfl⟩ : ∃ j', j = j' + 1 := ⟨j - 1, by omega⟩
  have hb := byT_bd h.co (i : Int)
  have hc := h.co _ (getD_mem (z := t0) hi)
  have := hc.cost; have := hc.en; have := hc.per
  have hfi := h.first hi
  rw [drop_nil (by omega), lostG] at hm
  obtain ⟨y, hy⟩ := resp_some h hi ha
  rw [L16_6_s, l16_6, bif_f (by omega), S38_eq (by omega) h.light, Option.bind_some]
  simp only
  rw [S37_eq k (by omega) (by omega) (by omega) (by omega), Option.bind_some, hm, Int.one_mul]
  have := L16_14_eq (k := k) (by omega) h hi ha 20000 k (firstT l i) 1 y (by omega) (by omega) (by omega) (by omega) (by omega) hy
  refine Eq.trans this ?_
  rw [respT_at hrow hi ha hy]
 | d + 1, n, j, m, h1, hj, hm => by
  obtain ⟨j', rfl⟩ : ∃ j', j = j' + 1 := ⟨j - 1, by omega⟩
  have hn : n < (l.take (i + 1)).length := by omega
  have hmem := getD_mem (z := t0) hn
  have ht := (h.light.2 _ (List.mem_of_mem_take hmem)).1
  have hll : (l.take (i + 1)).length ≤ 10 := by rw [List.length_take]; have := h.len; omega
  rw [drop_cons t0 hn, lostG] at hm
  rw [L16_6_s, l16_6, bif_t (by omega), ix_nat hn, rd_nat, show (l.take (i + 1)).getD n (0, 0, 0, [], [], []) = (l.take (i + 1)).getD n t0 from rfl, S36_eq (by omega) ht, Option.bind_some, w64_nat (by omega)]
  exact L16_6_eq hk hrow h hi ha d (n + 1) j' _ (by omega) (by omega) hm
theorem S16_eq {k : Nat} (hk : 20000 ≤ k) {l : List Tk} (hL : lightL l) (hl : l.length ≤ 10) (i apart : Int) : S16 k l i apart = some (((respT l i apart).1, (respT l i apart).2.1, (respT l i apart).2.2, ()), ()) := by
 unfold S16
 rw [S35_eq (by omega) hL, Option.bind_some]
 simp only
 cases hr : rowT l with
 | false =>
  have : respT l i apart = (0, 0, 1) := by unfold respT; rw [if_neg (fun q => by rw [hr] at q; cases q.1)]
  rw [this]; rfl
 | true =>
  rw [Bool.not_true, cond_false]
  by_cases h1 : i < 0
  ·have : respT l i apart = (0, 0, 1) := by unfold respT; rw [if_neg (fun q => by omega)]
   rw [bif_t h1, this]
  ·rw [bif_f h1]
   by_cases h2 : i ≥ (l.length : Int)
   ·have : respT l i apart = (0, 0, 1) := by unfold respT; rw [if_neg (fun q => by omega)]
    rw [bif_t h2, this]
   ·rw [bif_f h2]
    by_cases h3 : apart < 1
    ·have : respT l i apart = (0, 0, 1) := by unfold respT; rw [if_neg (fun q => by omega)]
     rw [bif_t h3, this]
    ·rw [bif_f h3]
     obtain ⟨n, rfl⟩ : ∃ n : Nat, i = (n : Int) := ⟨i.toNat, by omega⟩
     have hn : n < l.length := by omega
     have hRS := row_rs hr hL hl
     have ht := (hL.2 _ (getD_mem (z := t0) hn)).1
     rw [ix_nat hn, rd_nat, show l.getD n (0, 0, 0, [], [], []) = l.getD n t0 from rfl, S36_eq (by omega) ht, Option.bind_some, w64_nat (by omega), sx_ok (by omega) (by omega) (by omega), sub_take]
     have hll : (l.take (n + 1)).length ≤ 10 := by rw [List.length_take]; omega
     exact L16_6_eq hk hr hRS hn (by omega) (l.take (n + 1)).length 0 k 0 (by omega) (by omega) (by rw [List.drop_zero])
end Go.Proofs.Ytinopkpnlibopaa.Ab

/- How long a task takes at most: the document's answer. -/
namespace Go.Proofs.Ytinopkpnlibopaa.Ab
open Go.RowKit Tr
set_option linter.unusedSimpArgs false
set_option linter.unusedVariables false
end Go.Proofs.Ytinopkpnlibopaa.Ab

/- Both answers are one: the law of all rows. -/
namespace Go.Proofs.Ytinopkpnlibopaa.Ab
open Go.RowKit Tr
set_option linter.unusedSimpArgs false
set_option linter.unusedVariables false
theorem light_b17 : lightL [(1, 50, 50, ([(1, 0, 0, 0), (1, 0, 0, 0), (0, 0, 0, 0)] : List I4), [], [])] := ⟨by decide, by unfold lightT; decide⟩
theorem S14_eq {k : Nat} (hk : 20000 ≤ k) : S14 k = some ((true, ()), ()) := by
 unfold S14
 rw [S16_eq hk light_b17 (by decide), S16_eq hk light_b17 (by decide)]
 kernel_rfl
end Go.Proofs.Ytinopkpnlibopaa.Ab

/- What the rounds come to: the least that is so, or nothing up to the end. -/
namespace Go.Proofs.Ytinopkpnlibopaa.Ab
open Go.RowKit Tr
set_option linter.unusedSimpArgs false
set_option linter.unusedVariables false
theorem respG_spec {en : Int} {right : Int → Int} (hm : ∀ a b, 0 ≤ a → a ≤ b → right a ≤ right b) : ∀ (f : Nat) (r n : Int) (y : Int × Int × Int), 0 ≤ r → r ≤ right r → r ≤ en ∨ right r > en → respG en right f r n = some y →
  (y = (0, 0, 14) ∧ ∀ x, r ≤ x → x ≤ en → right x ≠ x) ∨ (y.2.2 = 0 ∧ right y.1 = y.1 ∧ r ≤ y.1 ∧ y.1 ≤ en ∧ n ≤ y.2.1 ∧ y.2.1 - n ≤ y.1 - r ∧ (right r ≠ r → n + 1 ≤ y.2.1) ∧ ∀ x, r ≤ x → right x = x → y.1 ≤ x)
 | 0, r, n, y, _, _, _, e => by cases e
 | f + 1, r, n, y, h0, h1, h2, e => by
  rw [respG] at e
  split at e
  ·rename_i q
   injection e with e; subst e
   refine .inl ⟨rfl, fun x hx hxe hf => ?_⟩
   have := hm r x h0 hx
   omega
  ·rename_i q
   split at e
   ·rename_i q2
    injection e with e; subst e
    refine .inr ⟨rfl, q2, Int.le_refl _, by omega, Int.le_refl _, by simp only; omega, fun h => absurd q2 h, fun x hx _ => hx⟩
   ·rename_i q2
    have hr := hm r (right r) h0 h1
    rcases respG_spec hm f (right r) (n + 1) y (by omega) hr (.inl (by omega)) e with ⟨a, b⟩ | ⟨a1, a2, a3, a4, a5, a6, a7, a8⟩
    ·refine .inl ⟨a, fun x hx hxe hf => ?_⟩
     have := hm r x h0 hx
     exact b x (by omega) hxe hf
    ·refine .inr ⟨a1, a2, by omega, a4, by omega, by omega, fun _ => by omega, fun x hx hf => ?_⟩
     have := hm r x h0 hx
     exact a8 x (by omega) hf
theorem RowOK.row {locks : Int} {l : List Tk} (h : RowOK locks l) : rowT l = true := by
 unfold rowT
 rw [Bool.not_eq_true', anyF_none]
 intro n _ hn
 unfold badR
 rw [h.may n (by omega), bne_self_eq_false, Bool.false_or, Bool.and_eq_false_iff]
 by_cases h0 : (n : Int) > 0
 ·right
  obtain ⟨r, m1, m2, m3⟩ := h.mt n (by omega)
  obtain ⟨r2, p1, p2, p3⟩ := h.mt (n - 1) (by omega)
  have e1 := m1.rank
  have e2 := p1.rank
  exact decide_eq_false (by rw [e1, e2]; omega)
 ·left; exact decide_eq_false h0
end Go.Proofs.Ytinopkpnlibopaa.Ab

/- What is told is no less than cost, what holds up, one loss, one go of each ahead. -/
namespace Go.Proofs.Ytinopkpnlibopaa.Ab
open Go.RowKit Tr
set_option linter.unusedSimpArgs false
set_option linter.unusedVariables false
end Go.Proofs.Ytinopkpnlibopaa.Ab

/- The law of what makes it no longer. -/
namespace Go.Proofs.Ytinopkpnlibopaa.Ab
open Go.RowKit Tr
set_option linter.unusedSimpArgs false
set_option linter.unusedVariables false
theorem up_le_iff {r v m : Int} (hv : 1 ≤ v) : up r v ≤ m ↔ r ≤ m * v := by
 unfold up
 rw [← Int.lt_add_one_iff, Int.ediv_lt_iff_lt_mul (by omega), Int.add_mul]
 omega
theorem up_anti {r v w : Int} (hr : 0 ≤ r) (hv : 1 ≤ v) (h : v ≤ w) : up r w ≤ up r v := by
 rw [up_le_iff (by omega)]
 have h1 := (up_le_iff (r := r) hv).1 (Int.le_refl _)
 have h2 := Int.mul_le_mul_of_nonneg_left h (up_bd hr hv).1
 omega
theorem respG_below {en z : Int} {right : Int → Int} (hm : ∀ a b, 0 ≤ a → a ≤ b → right a ≤ right b) (h2 : right z ≤ z) (h3 : z ≤ en) : ∀ (f : Nat) (r n : Int) (y : Int × Int × Int), 0 ≤ r → r ≤ z → r ≤ right r → respG en right f r n = some y → y.2.2 = 0 ∧ y.1 ≤ z
 | 0, r, n, y, _, _, _, e => by cases e
 | f + 1, r, n, y, h0, h1, hr, e => by
  have := hm r z h0 h1
  rw [respG, if_neg (by omega)] at e
  split at e
  ·injection e with e; subst e; exact ⟨rfl, h1⟩
  ·exact respG_below hm h2 h3 f (right r) (n + 1) y (by omega) (by omega) (hm r _ h0 hr) e
theorem respT_below {l : List Tk} (hr : rowT l = true) (h : RS l) {i : Nat} (hi : i < l.length) {apart z : Int} (ha : 1 ≤ apart) (h1 : firstT l i ≤ z) (h2 : rightT l i apart z ≤ z) (h3 : z ≤ (l.getD i t0).2.2.1) : (respT l (i : Int) apart).2.2 = 0 ∧ (respT l (i : Int) apart).1 ≤ z := by
 obtain ⟨y, hy⟩ := resp_some h hi ha
 have hf := h.first hi
 rw [respT_at hr hi ha hy]
 exact respG_below (right_mono h ha) h2 h3 _ _ _ _ (by omega) h1 (h.right hi ha (by omega)).1 hy
theorem row_iff {l : List Tk} : rowT l = true ↔ ∀ n, n < l.length → mayT (l.getD n t0) = 0 ∧ (0 < n → (l.getD (n - 1) t0).1 < (l.getD n t0).1) := by
 unfold rowT
 rw [Bool.not_eq_true', anyF_none]
 constructor
 ·intro h n hn
  have := h n (by omega) (by omega)
  unfold badR at this
  rw [Bool.or_eq_false_iff, Bool.and_eq_false_iff] at this
  refine ⟨by simpa using this.1, fun h0 => ?_⟩
  rcases this.2 with q | q
  ·exact absurd (of_decide_eq_false q) (by omega)
  ·have := of_decide_eq_false q; omega
 ·intro h n _ hn
  obtain ⟨a, b⟩ := h n (by omega)
  unfold badR
  rw [a, bne_self_eq_false, Bool.false_or, Bool.and_eq_false_iff]
  by_cases h0 : 0 < n
  ·right; exact decide_eq_false (by have := b h0; omega)
  ·left; exact decide_eq_false (by omega)
theorem row_tail {t : Tk} {r : List Tk} (h : rowT (t :: r) = true) : rowT r = true := by
 rw [row_iff] at h ⊢
 intro n hn
 obtain ⟨a, b⟩ := h (n + 1) (by simp only [List.length_cons]; omega)
 refine ⟨a, fun h0 => ?_⟩
 have := b (by omega)
 rw [show n + 1 - 1 = (n - 1) + 1 by omega] at this
 exact this
theorem light_tail {t : Tk} {r : List Tk} (h : lightL (t :: r)) : lightL r := ⟨by have := h.1; simp only [List.length_cons] at this; omega, fun x hx => h.2 x (by simp [hx])⟩
def longer (t : Tk) : Tk := (t.1, t.2.1 * 2, t.2.2)
theorem longer_may {t : Tk} (h : mayT t = 0) (hp : t.2.1 ≤ 8000) : mayT (longer t) = 0 := by
 rw [mayT_zero] at h ⊢
 obtain ⟨a1, a2, a3, a4⟩ := h
 exact ⟨a1, by unfold longer; simp only; omega, by unfold longer; simp only; omega, a4⟩
theorem longer_costs {t : Tk} (h : mayT t = 0) (hp : t.2.1 ≤ 8000) : costsT (longer t) = costsT t := by
 unfold costsT; rw [if_pos h, if_pos (longer_may h hp)]; rfl
theorem longer_row {t : Tk} {r : List Tk} (h : rowT (t :: r) = true) (hp : t.2.1 ≤ 8000) : rowT (longer t :: r) = true := by
 rw [row_iff] at h ⊢
 intro n hn
 obtain ⟨a, b⟩ := h n hn
 cases n with
 | zero => exact ⟨longer_may a hp, fun h => by omega⟩
 | succ n =>
  refine ⟨a, fun h0 => ?_⟩
  have := b h0
  cases n with
  | zero => exact this
  | succ n => exact this
theorem longer_by {t : Tk} {r : List Tk} (h : mayT t = 0) (hp : t.2.1 ≤ 8000) (i : Int) : byT (longer t :: r) i = byT (t :: r) i := by
 unfold byT
 rw [byG_congr (l := longer t :: r) (l' := t :: r) (fun s => by unfold ceilT; rw [ceilG, ceilG]; rfl), byG, byG, longer_costs h hp]
theorem longer_right {t : Tk} {r : List Tk} (h : RS (t :: r)) (hz : mayT t = 0) (hp : t.2.1 ≤ 8000) {m : Nat} {apart z : Int} (h0 : 0 ≤ z) : rightT (longer t :: r) (m + 1) apart z ≤ rightT (t :: r) (m + 1) apart z ∧ firstT (longer t :: r) (m + 1) = firstT (t :: r) (m + 1) := by
 have hf : firstT (longer t :: r) (m + 1) = firstT (t :: r) (m + 1) := by
  unfold firstT; rw [longer_by hz hp]; rfl
 have hc := h.co t (by simp)
 have h1 := hc.per; have h2 := hc.cost
 have hu : up z (t.2.1 * 2) ≤ up z t.2.1 := up_anti h0 h1.1 (by omega)
 have := Int.mul_le_mul_of_nonneg_right hu (show 0 ≤ (costsT t).1 by omega)
 refine ⟨?_, hf⟩
 unfold rightT
 rw [hf]
 simp only [List.take_succ_cons, List.map_cons, lostG, sumA, pc1, longer_costs hz hp]
 unfold longer
 simp only
 omega
theorem mx_mono {a b c d : Int} (h1 : a ≤ b) (h2 : c ≤ d) : mx a c ≤ mx b d := by unfold mx; split <;> split <;> omega
theorem lostG_mono : ∀ (r : List Tk) {a b : Int}, a ≤ b → lostG a r ≤ lostG b r
 | [], _, _, h => h
 | t :: r, _, _, h => by rw [lostG, lostG]; exact lostG_mono r (mx_mono h (Int.le_refl _))
theorem spF_mono {l l' : List Tk} {i i' : Int} (hc : ∀ s, ceilT l s ≤ i → ceilT l' s ≤ i') : ∀ (sp : List (Int × Int)) (a b : Int), a ≤ b → spF l i a sp ≤ spF l' i' b sp
 | [], _, _, h => h
 | e :: r, a, b, h => by
  rw [spF, spF]
  refine spF_mono hc r _ _ ?_
  by_cases h1 : ceilT l e.1 ≤ i
  ·rw [decide_eq_true h1, decide_eq_true (hc _ h1), cond_true, cond_true]; exact mx_mono h (Int.le_refl _)
  ·rw [decide_eq_false h1, cond_false]
   cases decide (ceilT l' e.1 ≤ i') with
   | true => exact Int.le_trans h (mx_ge _ _)
   | false => exact h
theorem ceil_tail {t : Tk} {r : List Tk} {m : Nat} (hm : m < 8) (s : Int) (h : ceilT r s ≤ (m : Int)) : ceilT (t :: r) s ≤ ((m + 1 : Nat) : Int) := by
 unfold ceilT at h ⊢
 rw [ceilG]
 cases locksT s t with
 | true => rw [cond_true]; omega
 | false =>
  rw [cond_false]
  rcases ceilG_case s r 0 with ⟨e, _⟩ | ⟨n, hn, e, hl⟩
  ·omega
  ·have := ceilG_le s r (0 + 1) n hn hl
   omega
theorem byG_tail {t : Tk} {r : List Tk} {m : Nat} (hm : m < 8) : ∀ (x : List Tk) (n : Nat) (a b : Int), a ≤ b → byG r (m : Int) x n a ≤ byG (t :: r) ((m + 1 : Nat) : Int) x (n + 1) b
 | [], n, a, b, h => h
 | y :: x, n, a, b, h => by
  rw [byG, byG]
  refine byG_tail hm x (n + 1) _ _ ?_
  by_cases e : n = m
  ·subst e
   rw [beq_self_eq_true, beq_self_eq_true, cond_true, cond_true]; exact h
  ·rw [show ((n : Int) == (m : Int)) = false by rw [beq_eq_false_iff_ne]; omega, show (((n + 1 : Nat) : Int) == ((m + 1 : Nat) : Int)) = false by rw [beq_eq_false_iff_ne]; omega, cond_false, cond_false]
   exact spF_mono (fun s hs => ceil_tail hm s hs) _ _ _ h
theorem tail_first {t : Tk} {r : List Tk} {m : Nat} (hm : m < 8) : firstT r m ≤ firstT (t :: r) (m + 1) := by
 have : byT r (m : Int) ≤ byT (t :: r) ((m + 1 : Nat) : Int) := by
  unfold byT
  show byG r (m : Int) r 0 0 ≤ byG (t :: r) ((m + 1 : Nat) : Int) r (0 + 1) (bif ((0 : Nat) : Int) == ((m + 1 : Nat) : Int) then 0 else spF (t :: r) ((m + 1 : Nat) : Int) 0 (costsT t).2.2)
  rw [show (((0 : Nat) : Int) == ((m + 1 : Nat) : Int)) = false by rw [beq_eq_false_iff_ne]; omega, cond_false]
  exact byG_tail hm r 0 0 _ (spF_ge _ _)
 unfold firstT
 rw [List.getD_cons_succ]; omega
theorem tail_right {t : Tk} {r : List Tk} (h : RS (t :: r)) {m : Nat} (hm : m < 8) {apart z : Int} (ha : 1 ≤ apart) (h0 : 0 ≤ z) : rightT r m apart z ≤ rightT (t :: r) (m + 1) apart z := by
 have hf := tail_first (t := t) (r := r) hm
 have hc := h.co t (by simp)
 have h1 := hc.per; have h2 := hc.cost
 have hu := up_bd h0 h1.1
 have hmul := Int.mul_nonneg hu.1 (show 0 ≤ (costsT t).1 by omega)
 have hl : lostG 0 (r.take (m + 1)) ≤ lostG (mx 0 (costsT t).2.1) (r.take (m + 1)) := lostG_mono _ (mx_ge _ _)
 have := Int.mul_le_mul_of_nonneg_left hl (up_bd (r := z) h0 ha).1
 unfold rightT
 simp only [List.take_succ_cons, List.map_cons, lostG, sumA, pc1] at *
 omega
theorem far_right {l : List Tk} (h : RS l) {i : Nat} {near far z : Int} (hn : 1 ≤ near) (hf : near ≤ far) (h0 : 0 ≤ z) : rightT l i far z ≤ rightT l i near z := by
 have := Int.mul_le_mul_of_nonneg_right (up_anti h0 hn hf) (h.lost (i + 1)).1
 unfold rightT; omega
theorem mnmx {a b : Int} (ha : 0 ≤ a ∧ a ≤ 255) (hb : 0 ≤ b ∧ b ≤ 255) : (0 ≤ mn a b ∧ mn a b ≤ 255) ∧ (0 ≤ mx a b ∧ mx a b ≤ 255) ∧ mn a b ≤ mx a b := by
 unfold mn mx; split <;> split <;> omega
theorem boundRises_pure {p : List Int} {a b : Int} {e : TypeId} (hp : Ty.fine (.sl e (.int .u8)) p) (ha : 0 ≤ a ∧ a ≤ 255) (hb : 0 ≤ b ∧ b ≤ 255) {k : Nat} (hk : 20000 ≤ k) : S5 k p a b = some ((true, ()), ()) := by
 unfold S5
 rw [S14_eq hk]
 simp only [Option.bind_some, Bool.not_true, cond_false]
 by_cases h : (p.length : Int) > 200
 ·rw [bif_t h]
 ·rw [bif_f h]
  obtain ⟨l, locks, e1, hro, _, hl⟩ := S15_eq (k := k) (by omega) hp (by omega) (show (0 : Int) < 4 ∧ (4 : Int) ≤ 10 by omega)
  rw [e1, Option.bind_some]
  by_cases hl2 : (l.length : Int) < 2
  ·rw [bif_t hl2]
  ·rw [bif_f hl2]
   have hL := hro.light (by omega)
   have hrow := hro.row
   have hR := row_rs hrow hL (by omega)
   obtain ⟨m1, m2, m3⟩ := mnmx ha hb
   obtain ⟨t, r, rfl⟩ : ∃ t r, l = t :: r := by
    cases l with
    | nil => simp at hl2
    | cons t r => exact ⟨t, r, rfl⟩
   obtain ⟨m, hm⟩ : ∃ m, r.length = m + 1 := ⟨r.length - 1, by simp only [List.length_cons] at hl2; omega⟩
   have hlen : (t :: r).length = m + 2 := by simp only [List.length_cons]; omega
   have hm8 : m < 8 := by omega
   have hz : mayT t = 0 := hro.may 0 (by omega)
   obtain ⟨rk, hmt, _⟩ := hro.mt 0 (by omega)
   have hper : t.2.1 ≤ 8000 := by have := hmt.per; have : ((t :: r).getD 0 t0).2.1 = t.2.1 := rfl; omega
   have hLr := light_tail hL
   have hRr : RS r := row_rs (row_tail hrow) hLr (by omega)
   have hLl : lightL (longer t :: r) := ⟨hL.1, fun x hx => by
    rcases List.mem_cons.1 hx with q | q
    ·rw [q]; exact hL.2 t (by simp)
    ·exact hL.2 x (by simp [q])⟩
   have hRl := row_rs (longer_row hrow hper) hLl (by simp only [List.length_cons]; omega)
   have hco := hR.co t (by simp)
   have hc1 := hco.per
   have hi : m + 1 < (t :: r).length := by omega
   obtain ⟨y, hy⟩ := resp_some hR hi (show 1 ≤ 1 + mn a b by omega)
   have hf := hR.first hi
   have hs := respG_spec (right_mono hR (show 1 ≤ 1 + mn a b by omega)) 20000 (firstT (t :: r) (m + 1)) 1 y (by omega) (hR.right hi (by omega) (by omega)).1 (by have := (hR.right hi (show 1 ≤ 1 + mn a b by omega) (r := firstT (t :: r) (m + 1)) (by omega)).1; omega) hy
   rw [hlen, w64 (n := ((m + 2 : Nat) : Int) - 1) (by omega) (by omega), show ((m + 2 : Nat) : Int) - 1 = ((m + 1 : Nat) : Int) by omega, w64 (n := mn a b) (by omega) (by omega), w64 (n := mx a b) (by omega) (by omega), w64 (n := 1 + mn a b) (by omega) (by omega), w64 (n := 1 + mx a b) (by omega) (by omega), S16_eq hk hL (by omega), Option.bind_some, respT_at hrow hi (by omega) hy]
   simp only
   rcases hs with ⟨e, _⟩ | ⟨a1, a2, a3, a4, a5, a6, a7, a8⟩
   ·rw [e]; rfl
   ·rw [a1]
    simp only [bne_self_eq_false, cond_false]
    obtain ⟨f1, f2⟩ := respT_below hrow hR hi (apart := 1 + mx a b) (z := y.1) (by omega) a3 (by rw [← a2]; rw [a2]; have := far_right hR (i := m + 1) (near := 1 + mn a b) (far := 1 + mx a b) (z := y.1) (by omega) (by omega) (by omega); omega) a4
    obtain ⟨g0, g1⟩ := longer_right hR hz hper (m := m) (apart := 1 + mn a b) (z := y.1) (by omega)
    obtain ⟨g2, g3⟩ := respT_below (longer_row hrow hper) hRl (i := m + 1) (by simp only [List.length_cons]; omega) (apart := 1 + mn a b) (z := y.1) (by omega) (by omega) (by omega) (by rw [List.getD_cons_succ] at a4 ⊢; exact a4)
    have t1 := tail_first (t := t) (r := r) hm8
    have t2 := tail_right hR hm8 (apart := 1 + mn a b) (z := y.1) (by omega) (by omega)
    obtain ⟨u2, u3⟩ := respT_below (row_tail hrow) hRr (i := m) (by omega) (apart := 1 + mn a b) (z := y.1) (by omega) (by omega) (by omega) (by rw [List.getD_cons_succ] at a4; exact a4)
    rw [S16_eq hk hL (by omega), Option.bind_some, ap_ok (by simp only [List.length_nil]; omega), List.nil_append, ix_ok (by omega) (by omega), ix_ok (by omega) (by omega)]
    rw [show upd (t :: r) 0 ((rd (t :: r) 0 (0, 0, 0, [], [], [])).1, IntKind.i64.wrap ((rd (t :: r) 0 (0, 0, 0, [], [], [])).2.1 * 2), (rd (t :: r) 0 (0, 0, 0, [], [], [])).2.2) = longer t :: r by
     show (t.1, IntKind.i64.wrap (t.2.1 * 2), t.2.2) :: r = _
     rw [w64 (by omega) (by omega)]; rfl]
    rw [S16_eq hk hLl (by simp only [List.length_cons]; omega), Option.bind_some, sx_ok (by omega) (by omega) (by omega), show sub (t :: r) 1 ((m + 2 : Nat) : Int) = r by
     rw [show ((m + 2 : Nat) : Int) = ((t :: r).length : Int) by omega]; simp [sub], w64 (n := ((m + 1 : Nat) : Int) - 1) (by omega) (by omega), show ((m + 1 : Nat) : Int) - 1 = (m : Int) by omega, S16_eq hk hLr (by omega), Option.bind_some]
    simp only [f1, g2, u2, beq_self_eq_true, cond_true]
    rw [bif_t f2, bif_t g3, decide_eq_true u3]
theorem wf_u8e {n : Int} (h : (Lit.int .u8 n).wf = true) : 0 ≤ n ∧ n ≤ 255 := by
 simp [Lit.wf, IntKind.min, IntKind.max, IntKind.signed, IntKind.bits] at h
 omega
theorem boundRises_law {e : TypeId} (p : List Int) (a b : Int) (hp : Ty.fine (.sl e (.int .u8)) p) (ha : Ty.fine (.int .u8) a) (hb : Ty.fine (.int .u8) b) : ∃ k, S5 k p a b = some ((true, ()), ()) := ⟨20000, boundRises_pure hp (wf_u8e ha) (wf_u8e hb) (by omega)⟩
end Go.Proofs.Ytinopkpnlibopaa.Ab
