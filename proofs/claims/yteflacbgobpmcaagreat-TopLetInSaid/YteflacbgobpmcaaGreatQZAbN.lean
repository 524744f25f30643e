import Derived.Test.YteflacbgobpmcaaGreatQZAbN0
import Derived.KernelRfl
/- The plain law, and what it hangs on. -/
/- How often, sums that may go beyond, rows. -/
namespace Go.Proofs.YteflacbgobpmcaaGreat.Ab
open Go.RowKit Tr
set_option linter.unusedSimpArgs false
set_option linter.unusedVariables false
def up (r v : Int) : Int := (r + v - 1) / v
theorem up_tdiv {r v : Int} (hr : 0 ≤ r) (hv : 1 ≤ v) : (if Int.tmod r v > 0 then Int.tdiv r v + 1 else Int.tdiv r v) = up r v := by
 rw [Int.tdiv_eq_ediv_of_nonneg hr, Int.tmod_eq_emod_of_nonneg hr]
 unfold up
 have h1 := Int.emod_nonneg r (show v ≠ 0 by omega)
 have h2 := Int.emod_lt_of_pos r (show 0 < v by omega)
 have h3 := Int.mul_ediv_add_emod r v
 split
 ·rename_i h
  have : r + v - 1 = (r % v - 1) + v * (r / v + 1) := by rw [Int.mul_add, Int.mul_one]; omega
  rw [this, Int.add_mul_ediv_left _ _ (by omega), Int.ediv_eq_zero_of_lt (a := r % v - 1) (b := v) (by omega) (by omega)]; omega
 ·have : r + v - 1 = (v - 1) + v * (r / v) := by omega
  rw [this, Int.add_mul_ediv_left _ _ (by omega), Int.ediv_eq_zero_of_lt (a := v - 1) (b := v) (by omega) (by omega)]; omega
theorem up_bd {r v : Int} (hr : 0 ≤ r) (hv : 1 ≤ v) : 0 ≤ up r v ∧ up r v ≤ r := by
 unfold up
 refine ⟨Int.ediv_nonneg (by omega) (by omega), ?_⟩
 rw [← Int.lt_add_one_iff]
 refine Int.ediv_lt_of_lt_mul (by omega) ?_
 have : (r + 1) * 1 ≤ (r + 1) * v := Int.mul_le_mul_of_nonneg_left hv (by omega)
 have : r * 1 ≤ r * v := Int.mul_le_mul_of_nonneg_left hv hr
 rw [Int.add_mul]; omega
theorem up_mono {r s v : Int} (h : r ≤ s) (hv : 1 ≤ v) : up r v ≤ up s v := Int.ediv_le_ediv (by omega) (by omega)
theorem tdiv_bd {r v : Int} (hr : 0 ≤ r) (hv : 1 ≤ v) : 0 ≤ Int.tdiv r v ∧ Int.tdiv r v ≤ r := by
 rw [Int.tdiv_eq_ediv_of_nonneg hr]
 exact ⟨Int.ediv_nonneg hr (by omega), Int.ediv_le_self _ hr⟩
theorem S54_eq (k : Nat) {a b : Int} (ha : 0 ≤ a ∧ a ≤ 4611686018427387904) (hb : 1 ≤ b) : S54 k a b = some ((up a b, true, ()), ()) := by
 have h := tdiv_bd ha.1 hb
 have e := up_tdiv ha.1 hb
 unfold S54
 rw [bif_f (by omega), bif_f (by omega), nz_ok (by omega), nz_ok (by omega), w64 (n := Int.tdiv a b) (by omega) (by omega), w64 (n := Int.tdiv a b + 1) (by omega) (by omega), ← e]
 split
 ·rename_i h1; rw [bif_t h1]
 ·rename_i h1; rw [bif_f h1]
theorem S46_eq (k : Nat) {a b : Int} (ha : 0 ≤ a ∧ a ≤ 4611686018427387904) (hb : 1 ≤ b) : S46 k a b = some ((up a b, true, ()), ()) := by
 have h := tdiv_bd ha.1 hb
 have e := up_tdiv ha.1 hb
 unfold S46
 rw [bif_f (by omega), bif_f (by omega), nz_ok (by omega), nz_ok (by omega), w64 (n := Int.tdiv a b) (by omega) (by omega), w64 (n := Int.tdiv a b + 1) (by omega) (by omega), ← e]
 split
 ·rename_i h1; rw [bif_t h1]
 ·rename_i h1; rw [bif_f h1]
theorem S30_eq (k : Nat) {a b : Int} (ha : 0 ≤ a ∧ a ≤ 4611686018427387904) (hb : 1 ≤ b) : S30 k a b = some ((up a b, ()), ()) := by
 unfold S30; rw [S54_eq k ha hb, Option.bind_some]
theorem S45_eq (k : Nat) {a b : Int} (ha : 0 ≤ a) (hb : 0 ≤ b) (h : a + b ≤ 4611686018427387904) : S45 k a b = some ((a + b, true, ()), ()) := by
 unfold S45
 rw [w64 (n := 9223372036854775807 - b) (by omega) (by omega), bif_f (by omega), w64 (by omega) (by omega)]
theorem S47_eq (k : Nat) {a b : Int} (ha : 0 ≤ a ∧ a ≤ 4611686018427387904) (hb : 0 ≤ b ∧ b ≤ 4611686018427387904) (h : a * b ≤ 4611686018427387904) : S47 k a b = some ((a * b, true, ()), ()) := by
 have h0 := Int.mul_nonneg ha.1 hb.1
 unfold S47
 rw [w64 (n := a * b) (by omega) (by omega)]
 by_cases hp : a > 0
 ·have hd := tdiv_bd (r := 9223372036854775807) (v := a) (by omega) (by omega)
  have hle : b ≤ Int.tdiv 9223372036854775807 a := by
   rw [Int.tdiv_eq_ediv_of_nonneg (by omega)]
   exact (Int.le_ediv_iff_mul_le hp).2 (by rw [Int.mul_comm]; omega)
  rw [bif_t hp, nz_ok (by omega), w64 (n := Int.tdiv 9223372036854775807 a) (by omega) (by omega), bif_f (by omega)]
 ·rw [bif_f hp]
theorem S28_eq (k : Nat) {s t v : Int} (hs : 0 ≤ s) (ht : 0 ≤ t ∧ t ≤ 4611686018427387904) (hv : 0 ≤ v ∧ v ≤ 4611686018427387904) (h : s + t * v ≤ 4611686018427387904) : S28 k s false t v = some ((), (s + t * v, false, ()), ()) := by
 have h0 := Int.mul_nonneg ht.1 hv.1
 unfold S28
 rw [S51_ok k (by omega) (by omega) (by omega), Option.bind_some]
 simp only
 rw [S52_ok k hs h0 (by omega), Option.bind_some]
 rfl
noncomputable def badR (l : List Tk) (i : Nat) : Bool := (mayT (l.getD i t0) != 0) || (decide ((i : Int) > 0) && decide ((l.getD (i - 1) t0).1 ≥ (l.getD i t0).1))
noncomputable def rowT (l : List Tk) : Bool := !anyF (badR l) l.length 0
theorem S26_eq {k : Nat} (hk : 1000 ≤ k) {l : List Tk} (h : lightL l) : S26 k l = some ((rowT l, ()), ()) := by
 have hl := h.1
 unfold S26
 have := anyN (L := fun j i => L26_2 k j l l (l.length : Int) i) (n := l.length) (badR l) (some ((false, ()), ())) (some ((true, ()), ())) (fun j i hi => by
  have ht := h.2 _ (getD_mem (z := t0) hi)
  show L26_2 k (j + 1) l l (l.length : Int) (i : Int) = _
  rw [L26_2_s, l26_2, bif_t (by omega), ix_nat hi, rd_nat, show l.getD i (0, 0, 0, [], [], []) = l.getD i t0 from rfl, S16_eq hk ht.1, Option.bind_some, w64_nat (by omega)]
  unfold badR
  simp only
  cases mayT (l.getD i t0) != 0 with
  | true => rfl
  | false =>
   rw [cond_false, Bool.false_or]
   by_cases h0 : (i : Int) > 0
   ·rw [bif_t h0, w64 (n := (i : Int) - 1) (by omega) (by omega), show (i : Int) - 1 = ((i - 1 : Nat) : Int) by omega, ix_nat (by omega), rd_nat, decide_eq_true h0, Bool.true_and]
   ·rw [bif_f h0, decide_eq_false h0, Bool.false_and, cond_false]) (fun j => by
  show L26_2 k (j + 1) l l (l.length : Int) (l.length : Int) = _
  rw [L26_2_s, l26_2, bif_f (by omega)]) l.length 0 k (by omega) (by omega)
 refine Eq.trans this ?_
 unfold rowT
 cases anyF (badR l) l.length 0 <;> rfl
end Go.Proofs.YteflacbgobpmcaaGreat.Ab

/- What is reckoned of a row is small; the rounds. -/
namespace Go.Proofs.YteflacbgobpmcaaGreat.Ab
open Go.RowKit Tr
set_option linter.unusedSimpArgs false
set_option linter.unusedVariables false
theorem cst_small {l : List I4} (h : mayA l = true) : (1 ≤ (cst l).1 ∧ (cst l).1 ≤ 9600) ∧ (1 ≤ (cst l).2.1 ∧ (cst l).2.1 ≤ (cst l).1) ∧ ∀ e ∈ (cst l).2.2, 1 ≤ e.2 ∧ e.2 < (cst l).1 := by
 obtain ⟨t, ht, rfl, hl⟩ := good_is_tree h
 have hc := cost_small ht hl
 obtain ⟨b1, b2, b3, b4⟩ := piece_bound 1 (0, 0) ht (by omega) (by simp) (by simp)
 simp only [Int.one_mul, Int.zero_add] at b3 b4
 rw [cst_tree ht hl]
 refine ⟨by simp only; omega, by simp only; omega, fun e he => ?_⟩
 have := spans_bd ht e he
 simp only; omega
structure CoS (t : Tk) : Prop where
 per : 1 ≤ t.2.1 ∧ t.2.1 ≤ 16384
 en : 1 ≤ t.2.2.1 ∧ t.2.2.1 ≤ t.2.1
 cost : 1 ≤ (costsT t).1 ∧ (costsT t).1 ≤ t.2.2.1
 lost : 1 ≤ (costsT t).2.1 ∧ (costsT t).2.1 ≤ (costsT t).1
 spans : ∀ e ∈ (costsT t).2.2, 1 ≤ e.2 ∧ e.2 < (costsT t).1
theorem costs_small {t : Tk} (hz : mayT t = 0) : CoS t := by
 obtain ⟨_, z2, z3, z4, z5, z6, z7, z8, z9⟩ := mayT_zero.1 hz
 obtain ⟨m1, m2, m3⟩ := cst_small z4
 have hcosts : costsT t = ((cst t.2.2.2.1).1, bif mayA t.2.2.2.2.1 then (cst t.2.2.2.2.1).1 else (cst t.2.2.2.1).2.1, (cst t.2.2.2.1).2.2 ++ (cst t.2.2.2.2.1).2.2) := by unfold costsT; rw [if_pos hz]
 refine ⟨z2, z3, by rw [hcosts]; simp only; omega, ?_, fun e he => ?_⟩
 ·rw [hcosts]
  simp only
  cases h : mayA t.2.2.2.2.1 with
  | false => rw [cond_false]; omega
  | true => have := cst_small h; rw [cond_true]; omega
 ·rw [hcosts] at he ⊢
  simp only [List.mem_append] at he ⊢
  rcases he with q | q
  ·exact m3 e q
  ·cases h : mayA t.2.2.2.2.1 with
   | false => rw [cst_bad h] at q; cases q
   | true => have := (cst_small h).2.2 e q; omega
theorem mx_le {a b c : Int} (h1 : a ≤ c) (h2 : b ≤ c) : mx a b ≤ c := by unfold mx; split <;> omega
theorem spF_le {l : List Tk} {i b : Int} : ∀ (sp : List (Int × Int)) (m : Int), m ≤ b → (∀ e ∈ sp, e.2 ≤ b) → spF l i m sp ≤ b
 | [], m, h, _ => h
 | e :: r, m, h, hs => by
  rw [spF]
  refine spF_le r _ ?_ (fun x hx => hs x (by simp [hx]))
  cases decide (ceilT l e.1 ≤ i) with
  | true => exact mx_le h (hs e (by simp))
  | false => exact h
theorem byG_le {l : List Tk} {i b : Int} : ∀ (r : List Tk) (n : Nat) (m : Int), m ≤ b → (∀ t ∈ r, ∀ e ∈ (costsT t).2.2, e.2 ≤ b) → byG l i r n m ≤ b
 | [], n, m, h, _ => h
 | t :: r, n, m, h, hs => by
  rw [byG]
  refine byG_le r _ _ ?_ (fun x hx => hs x (by simp [hx]))
  cases (n : Int) == i with
  | true => exact h
  | false => exact spF_le _ m h (hs t (by simp))
theorem byT_bd {l : List Tk} (h : ∀ t ∈ l, CoS t) (i : Int) : 0 ≤ byT l i ∧ byT l i ≤ 16384 :=
 ⟨byG_ge l 0 0, byG_le l 0 0 (by omega) (fun t ht e he => by have q := h t ht; have := q.spans e he; have := q.cost; have := q.en; have := q.per; omega)⟩
def sumA (r : Int) : List (Int × Int) → Int
 | [] => 0
 | x :: l => up r x.1 * x.2 + sumA r l
noncomputable def pc1 (t : Tk) : Int × Int := (t.2.1, (costsT t).1)
noncomputable def lostG : Int → List Tk → Int
 | m, [] => m
 | m, t :: r => lostG (mx m (costsT t).2.1) r
noncomputable def firstT (l : List Tk) (i : Nat) : Int := (costsT (l.getD i t0)).1 + byT l (i : Int)
noncomputable def rightT (l : List Tk) (i : Nat) (apart r : Int) : Int := firstT l i + up r apart * lostG 0 (l.take (i + 1)) + sumA r ((l.take i).map pc1)
def respG (en : Int) (right : Int → Int) : Nat → Int → Int → Option (Int × Int × Int)
 | 0, _, _ => none
 | f + 1, r, n => if right r > en then some (0, 0, 14) else if right r = r then some (r, n, 0) else respG en right f (right r) (n + 1)
theorem sumA_nonneg {r : Int} (hr : 0 ≤ r) : ∀ {l : List (Int × Int)}, (∀ x ∈ l, 1 ≤ x.1 ∧ 0 ≤ x.2) → 0 ≤ sumA r l
 | [], _ => Int.le_refl _
 | x :: l, h => by
  have hx := h x (by simp)
  have := sumA_nonneg hr (l := l) (fun y hy => h y (by simp [hy]))
  have := Int.mul_nonneg (up_bd hr hx.1).1 hx.2
  rw [sumA]; omega
theorem sumA_mono {r s : Int} (h : r ≤ s) : ∀ {l : List (Int × Int)}, (∀ x ∈ l, 1 ≤ x.1 ∧ 0 ≤ x.2) → sumA r l ≤ sumA s l
 | [], _ => Int.le_refl _
 | x :: l, hl => by
  have hx := hl x (by simp)
  have := sumA_mono h (l := l) (fun y hy => hl y (by simp [hy]))
  have := Int.mul_le_mul_of_nonneg_right (up_mono h hx.1) hx.2
  rw [sumA, sumA]; omega
theorem sumA_le {r b : Int} (hr : 0 ≤ r) (hb : 0 ≤ b) : ∀ {l : List (Int × Int)}, (∀ x ∈ l, 1 ≤ x.1 ∧ 0 ≤ x.2 ∧ x.2 ≤ b) → sumA r l ≤ (l.length : Int) * (r * b)
 | [], _ => by simp [sumA]
 | x :: l, h => by
  have hx := h x (by simp)
  have h1 := sumA_le hr hb (l := l) (fun y hy => h y (by simp [hy]))
  have hu := up_bd hr hx.1
  have h2 : up r x.1 * x.2 ≤ r * b := Int.mul_le_mul hu.2 hx.2.2 hx.2.1 hr
  rw [sumA, List.length_cons, show ((l.length + 1 : Nat) : Int) = (l.length : Int) + 1 by omega, Int.add_mul, Int.one_mul]; omega
theorem resp_total {en : Int} {right : Int → Int} (hm : ∀ a b, 0 ≤ a → a ≤ b → right a ≤ right b) : ∀ (f : Nat) (r n : Int), 0 ≤ r → r ≤ right r → en - r < (f : Int) → 0 < f → ∃ x, respG en right f r n = some x
 | 0, r, n, _, _, _, h => absurd h (by omega)
 | f + 1, r, n, h0, h1, h2, _ => by
  rw [respG]
  split
  ·exact ⟨_, rfl⟩
  ·split
   ·exact ⟨_, rfl⟩
   ·rename_i h3 h4
    exact resp_total hm f (right r) (n + 1) (by omega) (hm r (right r) h0 h1) (by omega) (by omega)
end Go.Proofs.YteflacbgobpmcaaGreat.Ab

/- How long a task takes at most: the program's rounds. -/
namespace Go.Proofs.YteflacbgobpmcaaGreat.Ab
open Go.RowKit Tr
set_option linter.unusedSimpArgs false
set_option linter.unusedVariables false
structure RS (l : List Tk) : Prop where
 light : lightL l
 len : l.length ≤ 10
 co : ∀ t ∈ l, CoS t
theorem lostG_bd {b : Int} : ∀ (r : List Tk) (m : Int), 0 ≤ m → m ≤ b → (∀ t ∈ r, (costsT t).2.1 ≤ b) → 0 ≤ lostG m r ∧ lostG m r ≤ b
 | [], m, h0, h, _ => ⟨h0, h⟩
 | t :: r, m, h0, h, hs => by
  rw [lostG]
  exact lostG_bd r _ (Int.le_trans h0 (mx_ge _ _)) (mx_le h (hs t (by simp))) (fun x hx => hs x (by simp [hx]))
theorem RS.first {l : List Tk} (h : RS l) {i : Nat} (hi : i < l.length) : 1 ≤ firstT l i ∧ firstT l i ≤ 32768 := by
 have hc := h.co _ (getD_mem (z := t0) hi)
 have hb := byT_bd h.co (i : Int)
 have := hc.cost; have := hc.en; have := hc.per
 unfold firstT; omega
theorem RS.lost {l : List Tk} (h : RS l) (i : Nat) : 0 ≤ lostG 0 (l.take i) ∧ lostG 0 (l.take i) ≤ 16384 :=
 lostG_bd _ 0 (by omega) (by omega) (fun t ht => by have q := h.co t (List.mem_of_mem_take ht); have := q.lost; have := q.cost; have := q.en; have := q.per; omega)
theorem RS.pcs {l : List Tk} (h : RS l) (i : Nat) : ∀ x ∈ (l.take i).map pc1, 1 ≤ x.1 ∧ 0 ≤ x.2 ∧ x.2 ≤ 16384 := fun x hx => by
 obtain ⟨t, ht, rfl⟩ := List.mem_map.1 hx
 have q := h.co t (List.mem_of_mem_take ht)
 have := q.cost; have := q.en; have := q.per
 unfold pc1; simp only; omega
theorem RS.loss {l : List Tk} (h : RS l) {i : Nat} {apart r : Int} (ha : 1 ≤ apart) (hr : 0 ≤ r ∧ r ≤ 50000) : 0 ≤ up r apart * lostG 0 (l.take (i + 1)) ∧ up r apart * lostG 0 (l.take (i + 1)) ≤ 819200000 := by
 have hl := h.lost (i + 1)
 have hu := up_bd hr.1 ha
 have := Int.mul_nonneg hu.1 hl.1
 have : up r apart * lostG 0 (l.take (i + 1)) ≤ 50000 * 16384 := Int.mul_le_mul (by omega) hl.2 hl.1 (by omega)
 omega
theorem RS.sum {l : List Tk} (h : RS l) {i : Nat} {r : Int} (hr : 0 ≤ r ∧ r ≤ 50000) : 0 ≤ sumA r ((l.take i).map pc1) ∧ sumA r ((l.take i).map pc1) ≤ 8192000000 := by
 have h0 := sumA_nonneg hr.1 (l := (l.take i).map pc1) (fun x hx => ⟨(h.pcs i x hx).1, (h.pcs i x hx).2.1⟩)
 have h1 := sumA_le hr.1 (show (0 : Int) ≤ 16384 by omega) (h.pcs i)
 have hl : ((l.take i).map pc1).length ≤ 10 := by rw [List.length_map, List.length_take]; have := h.len; omega
 have h2 : (((l.take i).map pc1).length : Int) * (r * 16384) ≤ 10 * (r * 16384) := Int.mul_le_mul_of_nonneg_right (by omega) (by omega)
 omega
theorem RS.right {l : List Tk} (h : RS l) {i : Nat} (hi : i < l.length) {apart r : Int} (ha : 1 ≤ apart) (hr : 0 ≤ r ∧ r ≤ 50000) : firstT l i ≤ rightT l i apart r ∧ rightT l i apart r ≤ 100000000000 := by
 have h1 := h.first hi; have h2 := h.loss (i := i) ha hr; have h3 := h.sum (i := i) hr
 unfold rightT; omega
theorem L12_18_eq {k : Nat} (hk : 1000 ≤ k) {g : List Tk → Int → Int → Int → Int → Int → Int → Bool → Option ((Int × Int × Int × Unit) × Unit)} {l tk : List Tk} {i : Nat} (hi : i < l.length) {apart r rounds lost first : Int} (hr : 0 ≤ r ∧ r ≤ 50000) (htk : tk.length ≤ 100) (hs : ∀ t ∈ tk, lightT t ∧ CoS t) :
  ∀ (d n j : Nat) (x : Int), n + d = tk.length → d < j → 0 ≤ x → x + sumA r ((tk.drop n).map pc1) ≤ 100000000000 →
  L12_18 k g j l (i : Int) apart r rounds lost first false x false tk (tk.length : Int) (n : Int) = if x + sumA r ((tk.drop n).map pc1) > (l.getD i t0).2.2.1 then some ((0, 0, 14, ()), ()) else if x + sumA r ((tk.drop n).map pc1) = r then some ((r, rounds, 0, ()), ()) else g l (i : Int) apart (x + sumA r ((tk.drop n).map pc1)) rounds lost first false
 | 0, n, j, x, h, hj, hx, hb => by
  obtain ⟨j', rfl⟩ : ∃ j', j = j' + 1 := ⟨j - 1, by omega⟩
  rw [L12_18_s, l12_18, bif_f (by omega), drop_nil (by omega), cond_false, ix_nat hi, rd_nat, show l.getD i (0, 0, 0, [], [], []) = l.getD i t0 from rfl]
  simp only [List.map_nil, sumA, Int.add_zero]
  by_cases h1 : x > (l.getD i t0).2.2.1
  ·rw [bif_t h1, if_pos h1]
  ·rw [bif_f h1, if_neg h1]
   by_cases h2 : x = r
   ·rw [if_pos h2, show (x == r) = true by rw [h2]; exact beq_self_eq_true r, cond_true]
   ·rw [if_neg h2, show (x == r) = false by rw [beq_eq_false_iff_ne]; exact h2, cond_false]
 | d + 1, n, j, x, h, hj, hx, hb => by
  obtain ⟨j', rfl⟩ : ∃ j', j = j' + 1 := ⟨j - 1, by omega⟩
  have hn : n < tk.length := by omega
  obtain ⟨ht, hc⟩ := hs _ (getD_mem (z := t0) hn)
  have hper := hc.per
  have hu := up_bd hr.1 hper.1
  have hco := hc.cost; have hen := hc.en
  have hmul := Int.mul_nonneg hu.1 (show 0 ≤ (costsT (tk.getD n t0)).1 by omega)
  have hrest : 0 ≤ sumA r ((tk.drop (n + 1)).map pc1) := sumA_nonneg hr.1 (fun y hy => by
   obtain ⟨t, ht, rfl⟩ := List.mem_map.1 hy
   have q := (hs t (List.mem_of_mem_drop ht)).2
   have := q.cost; have := q.per
   unfold pc1; simp only; omega)
  rw [drop_cons t0 hn, List.map_cons, sumA] at hb ⊢
  unfold pc1 at hb ⊢
  simp only at hb ⊢
  have ih := L12_18_eq hk (g := g) hi (apart := apart) (rounds := rounds) (lost := lost) (first := first) hr htk hs d (n + 1) j' (x + up r (tk.getD n t0).2.1 * (costsT (tk.getD n t0)).1) (by omega) (by omega) (by omega) (by unfold pc1; omega)
  unfold pc1 at ih
  rw [L12_18_s, l12_18, bif_t (by omega), ix_nat hn, rd_nat, show tk.getD n (0, 0, 0, [], [], []) = tk.getD n t0 from rfl, S27_eq hk ht, Option.bind_some, S30_eq k (by omega) hper.1, Option.bind_some]
  simp only
  rw [S28_eq k hx (by omega) (by omega) (by unfold pc1 at hrest; omega), Option.bind_some, w64_nat (by omega), ← Int.add_assoc]
  exact ih
end Go.Proofs.YteflacbgobpmcaaGreat.Ab

/- How long a task takes at most: the program's answer. -/
namespace Go.Proofs.YteflacbgobpmcaaGreat.Ab
open Go.RowKit Tr
set_option linter.unusedSimpArgs false
set_option linter.unusedVariables false
theorem sub_take {α : Type} {l : List α} {i : Nat} : sub l 0 (i : Int) = l.take i := by simp [sub]
theorem right_mono {l : List Tk} (h : RS l) {i : Nat} {apart : Int} (ha : 1 ≤ apart) : ∀ a b, 0 ≤ a → a ≤ b → rightT l i apart a ≤ rightT l i apart b := fun a b h0 hab => by
 have h1 := Int.mul_le_mul_of_nonneg_right (up_mono hab ha) (h.lost (i + 1)).1
 have h2 := sumA_mono hab (l := (l.take i).map pc1) (fun x hx => ⟨(h.pcs i x hx).1, (h.pcs i x hx).2.1⟩)
 unfold rightT; omega
theorem row_may {l : List Tk} (h : rowT l = true) : ∀ t ∈ l, mayT t = 0 := fun t ht => by
 obtain ⟨j, hj, e⟩ := List.mem_iff_getElem.1 ht
 have e2 : l.getD j t0 = t := by rw [← e, List.getD_eq_getElem?_getD, List.getElem?_eq_getElem hj]; rfl
 unfold rowT at h
 rw [Bool.not_eq_true', anyF_none] at h
 have := h j (by omega) (by omega)
 unfold badR at this
 rw [Bool.or_eq_false_iff, e2] at this
 simpa using this.1
theorem row_rs {l : List Tk} (h : rowT l = true) (hL : lightL l) (hl : l.length ≤ 10) : RS l := ⟨hL, hl, fun t ht => costs_small (row_may h t ht)⟩
theorem L12_14_eq {k : Nat} (hk : 1000 ≤ k) {l : List Tk} (h : RS l) {i : Nat} (hi : i < l.length) {apart : Int} (ha : 1 ≤ apart) : ∀ (f j : Nat) (r n : Int) (y : Int × Int × Int), f ≤ j → 0 ≤ r → r ≤ 50000 → 1 ≤ n → n + f ≤ 1000000 → respG (l.getD i t0).2.2.1 (rightT l i apart) f r n = some y →
  L12_14 k j l (i : Int) apart r (n - 1) (lostG 0 (l.take (i + 1))) (firstT l i) false = some ((y.1, y.2.1, y.2.2, ()), ())
 | 0, j, r, n, y, _, _, _, _, _, e => by cases e
 | f + 1, j, r, n, y, hj, h0, h1, hn, hf, e => by
  obtain ⟨j', rfl⟩ : ∃ j', j = j' + 1 := ⟨j - 1, by omega⟩
  have hfi := h.first hi
  have hls := h.lost (i + 1)
  have hlo := h.loss (i := i) ha ⟨h0, h1⟩
  have hsu := h.sum (i := i) ⟨h0, h1⟩
  have hu := up_bd h0 ha
  have hen := (h.co _ (getD_mem (z := t0) hi)).en
  have hper := (h.co _ (getD_mem (z := t0) hi)).per
  have hlen := h.len
  rw [L12_14_s, l12_14, S30_eq k (by omega) ha, Option.bind_some]
  simp only
  rw [S28_eq k (by omega) (by omega) (by omega) (by omega), Option.bind_some, sx_ok (by omega) (by omega) (by omega), w64 (n := n - 1 + 1) (by omega) (by omega), show n - 1 + 1 = n by omega, sub_take]
  have htl : (l.take i).length ≤ 100 := by rw [List.length_take]; omega
  have := L12_18_eq hk (g := L12_14 k j') hi (tk := l.take i) (apart := apart) (rounds := n) (lost := lostG 0 (l.take (i + 1))) (first := firstT l i) (r := r) ⟨h0, h1⟩ htl (fun t ht => ⟨(h.light.2 t (List.mem_of_mem_take ht)).1, h.co t (List.mem_of_mem_take ht)⟩) (l.take i).length 0 k (firstT l i + up r apart * lostG 0 (l.take (i + 1))) (by omega) (by omega) (by omega) (by rw [List.drop_zero]; omega)
  refine Eq.trans this ?_
  rw [List.drop_zero, show firstT l i + up r apart * lostG 0 (l.take (i + 1)) + sumA r ((l.take i).map pc1) = rightT l i apart r from rfl]
  rw [respG] at e
  split at e
  ·rename_i q
   injection e with e; subst e
   rw [if_pos q]
  ·rename_i q
   rw [if_neg q]
   split at e
   ·rename_i q2
    injection e with e; subst e
    rw [if_pos q2]
   ·rename_i q2
    rw [if_neg q2]
    have hr := h.right hi ha ⟨h0, h1⟩
    have := L12_14_eq hk h hi ha f j' (rightT l i apart r) (n + 1) y (by omega) (by omega) (by omega) (by omega) (by omega) e
    rw [show n + 1 - 1 = n by omega] at this
    exact this
noncomputable def respT (l : List Tk) (i apart : Int) : Int × Int × Int :=
 if rowT l = true ∧ 0 ≤ i ∧ i < (l.length : Int) ∧ 1 ≤ apart then (respG (l.getD i.toNat t0).2.2.1 (rightT l i.toNat apart) 20000 (firstT l i.toNat) 1).getD (0, 0, 0) else (0, 0, 1)
theorem resp_some {l : List Tk} (h : RS l) {i : Nat} (hi : i < l.length) {apart : Int} (ha : 1 ≤ apart) : ∃ y, respG (l.getD i t0).2.2.1 (rightT l i apart) 20000 (firstT l i) 1 = some y := by
 have hf := h.first hi
 have hen := (h.co _ (getD_mem (z := t0) hi)).en
 have hper := (h.co _ (getD_mem (z := t0) hi)).per
 exact resp_total (right_mono h ha) 20000 _ 1 (by omega) (h.right hi ha (by omega)).1 (by omega) (by omega)
theorem respT_at {l : List Tk} (hr : rowT l = true) {i : Nat} (hi : i < l.length) {apart : Int} (ha : 1 ≤ apart) {y : Int × Int × Int} (hy : respG (l.getD i t0).2.2.1 (rightT l i apart) 20000 (firstT l i) 1 = some y) : respT l (i : Int) apart = y := by
 unfold respT
 rw [if_pos ⟨hr, by omega, by omega, ha⟩, Int.toNat_natCast, hy]; rfl
theorem L12_6_eq {k : Nat} (hk : 20000 ≤ k) {l : List Tk} (hrow : rowT l = true) (h : RS l) {i : Nat} (hi : i < l.length) {apart : Int} (ha : 1 ≤ apart) : ∀ (d n j : Nat) (m : Int), n + d = (l.take (i + 1)).length → d < j → lostG m ((l.take (i + 1)).drop n) = lostG 0 (l.take (i + 1)) →
  L12_6 k j l (i : Int) apart 0 (costsT (l.getD i t0)).1 m (l.take (i + 1)) ((l.take (i + 1)).length : Int) (n : Int) = some (((respT l i apart).1, (respT l i apart).2.1, (respT l i apart).2.2, ()), ())
 | 0, n, j, m, h1, hj, hm => by
  obtain ⟨j', rfl⟩ : ∃ j', j = j' + 1 := ⟨j - 1, by omega⟩
  have hb := byT_bd h.co (i : Int)
  have hc := h.co _ (getD_mem (z := t0) hi)
  have := hc.cost; have := hc.en; have := hc.per
  have hfi := h.first hi
  rw [drop_nil (by omega), lostG] at hm
  obtain ⟨y, hy⟩ := resp_some h hi ha
  rw [L12_6_s, l12_6, bif_f (by omega), S29_eq (by omega) h.light, Option.bind_some]
  simp only
  rw [S28_eq k (by omega) (by omega) (by omega) (by omega), Option.bind_some, hm, Int.one_mul]
  have := L12_14_eq (k := k) (by omega) h hi ha 20000 k (firstT l i) 1 y (by omega) (by omega) (by omega) (by omega) (by omega) hy
  refine Eq.trans this ?_
  rw [respT_at hrow hi ha hy]
 | d + 1, n, j, m, h1, hj, hm => by
  obtain ⟨j', rfl⟩ : ∃ j', j = j' + 1 := ⟨j - 1, by omega⟩
  have hn : n < (l.take (i + 1)).length := by omega
  have hmem := getD_mem (z := t0) hn
  have ht := (h.light.2 _ (List.mem_of_mem_take hmem)).1
  have hll : (l.take (i + 1)).length ≤ 10 := by rw [List.length_take]; have := h.len; omega
  rw [drop_cons t0 hn, lostG] at hm
  rw [L12_6_s, l12_6, bif_t (by omega), ix_nat hn, rd_nat, show (l.take (i + 1)).getD n (0, 0, 0, [], [], []) = (l.take (i + 1)).getD n t0 from rfl, S27_eq (by omega) ht, Option.bind_some, w64_nat (by omega)]
  exact L12_6_eq hk hrow h hi ha d (n + 1) j' _ (by omega) (by omega) hm
theorem S12_eq {k : Nat} (hk : 20000 ≤ k) {l : List Tk} (hL : lightL l) (hl : l.length ≤ 10) (i apart : Int) : S12 k l i apart = some (((respT l i apart).1, (respT l i apart).2.1, (respT l i apart).2.2, ()), ()) := by
 unfold S12
 rw [S26_eq (by omega) hL, Option.bind_some]
 simp only
 cases hr : rowT l with
 | false =>
  have : respT l i apart = (0, 0, 1) := by unfold respT; rw [if_neg (fun q => by rw [hr] at q; cases q.1)]
  rw [this]; rfl
 | true =>
  rw [Bool.not_true, cond_false]
  by_cases h1 : i < 0
  ·have : respT l i apart = (0, 0, 1) := by unfold respT; rw [if_neg (fun q => by omega)]
   rw [bif_t h1, this]
  ·rw [bif_f h1]
   by_cases h2 : i ≥ (l.length : Int)
   ·have : respT l i apart = (0, 0, 1) := by unfold respT; rw [if_neg (fun q => by omega)]
    rw [bif_t h2, this]
   ·rw [bif_f h2]
    by_cases h3 : apart < 1
    ·have : respT l i apart = (0, 0, 1) := by unfold respT; rw [if_neg (fun q => by omega)]
     rw [bif_t h3, this]
    ·rw [bif_f h3]
     obtain ⟨n, rfl⟩ : ∃ n : Nat, i = (n : Int) := ⟨i.toNat, by omega⟩
     have hn : n < l.length := by omega
     have hRS := row_rs hr hL hl
     have ht := (hL.2 _ (getD_mem (z := t0) hn)).1
     rw [ix_nat hn, rd_nat, show l.getD n (0, 0, 0, [], [], []) = l.getD n t0 from rfl, S27_eq (by omega) ht, Option.bind_some, w64_nat (by omega), sx_ok (by omega) (by omega) (by omega), sub_take]
     have hll : (l.take (n + 1)).length ≤ 10 := by rw [List.length_take]; omega
     exact L12_6_eq hk hr hRS hn (by omega) (l.take (n + 1)).length 0 k 0 (by omega) (by omega) (by rw [List.drop_zero])
end Go.Proofs.YteflacbgobpmcaaGreat.Ab

/- How long a task takes at most: the document's answer. -/
namespace Go.Proofs.YteflacbgobpmcaaGreat.Ab
open Go.RowKit Tr
set_option linter.unusedSimpArgs false
set_option linter.unusedVariables false
noncomputable def cst1 (t : Tk) : Int := (costsT t).1
def per1 (t : Tk) : Int := t.2.1
theorem L23_3_eq {k : Nat} (hk : 1000 ≤ k) {l : List Tk} (hL : lightL l) {i : Nat} (hi : i < l.length) {a b x2 : Int} : ∀ (d n j : Nat) (x : List Int) (x1 : Int) (x3 : List Int), n + d = i + 1 → d < j → x.length ≤ n → x3.length ≤ n →
  L23_3 k j l (i : Int) a b x x1 x2 x3 (n : Int) = some (((x ++ ((l.take (i + 1)).drop n).map cst1, lostG x1 ((l.take (i + 1)).drop n), x2, x3 ++ ((l.take (i + 1)).drop n).map per1), ()), ())
 | 0, n, j, x, x1, x3, h, hj, h1, h3 => by
  obtain ⟨j', rfl⟩ : ∃ j', j = j' + 1 := ⟨j - 1, by omega⟩
  rw [L23_3_s, l23_3, bif_f (by omega), drop_nil (by rw [List.length_take]; omega), List.map_nil, List.map_nil, List.append_nil, List.append_nil, lostG]
 | d + 1, n, j, x, x1, x3, h, hj, h1, h3 => by
  obtain ⟨j', rfl⟩ : ∃ j', j = j' + 1 := ⟨j - 1, by omega⟩
  have hll := hL.1
  have hn : n < (l.take (i + 1)).length := by rw [List.length_take]; omega
  have hg : (l.take (i + 1)).getD n t0 = l.getD n t0 := by
   rw [List.getD_eq_getElem?_getD, List.getD_eq_getElem?_getD, List.getElem?_take, if_pos (by omega)]
  have ht := (hL.2 _ (getD_mem (z := t0) (show n < l.length by omega))).1
  have ih := L23_3_eq hk hL hi (a := a) (b := b) (x2 := x2) d (n + 1) j' (x ++ [(costsT (l.getD n t0)).1]) (mx x1 (costsT (l.getD n t0)).2.1) (x3 ++ [(l.getD n t0).2.1]) (by omega) (by omega) (by simp; omega) (by simp; omega)
  rw [L23_3_s, l23_3, bif_t (by omega), ix_nat (by omega), rd_nat, show l.getD n (0, 0, 0, [], [], []) = l.getD n t0 from rfl, S44_eq hk ht, Option.bind_some, ap_ok (by simp only [List.length_cons, List.length_nil]; omega), ix_nat (by omega), ap_ok (by simp only [List.length_cons, List.length_nil]; omega), w64_nat (by omega), drop_cons t0 hn, List.map_cons, List.map_cons, lostG, hg]
  refine Eq.trans ih ?_
  rw [List.append_assoc, List.append_assoc]; rfl
theorem S23_eq {k : Nat} (hk : 1000 ≤ k) {l : List Tk} (hL : lightL l) {i : Nat} (hi : i < l.length) : S23 k l (i : Int) = some ((((l.take (i + 1)).map cst1, lostG 0 (l.take (i + 1)), byT l (i : Int), (l.take (i + 1)).map per1), ()), ()) := by
 have := hL.1
 unfold S23
 rw [S43_eq hk hL, Option.bind_some]
 refine (L23_3_eq hk hL hi (i + 1) 0 k [] 0 [] (by omega) (by omega) (by simp) (by simp)).trans ?_
 rw [List.drop_zero, List.nil_append, List.nil_append]
theorem get_map1 {f : Tk → Int} {l : List Tk} {i n : Nat} (hn : n < i + 1) (hi : i < l.length) : ((l.take (i + 1)).map f).getD n 0 = f (l.getD n t0) := by
 rw [List.getD_eq_getElem?_getD, List.getElem?_map, List.getElem?_take, if_pos hn, List.getD_eq_getElem?_getD, List.getElem?_eq_getElem (by omega)]; rfl
theorem L24_9_eq {k : Nat} {l : List Tk} (h : RS l) {i : Nat} (hi : i < l.length) {r y1 y2 : Int} (hr : 0 ≤ r ∧ r ≤ 50000) : ∀ (d n j : Nat) (x : Int), n + d = i → d < j → 0 ≤ x → x + sumA r (((l.take i).drop n).map pc1) ≤ 100000000000 →
  L24_9 k j r ((l.take (i + 1)).map cst1) y1 y2 ((l.take (i + 1)).map per1) (i : Int) x true (n : Int) = some ((x + sumA r (((l.take i).drop n).map pc1), true, ()), ())
 | 0, n, j, x, h1, hj, hx, hb => by
  obtain ⟨j', rfl⟩ : ∃ j', j = j' + 1 := ⟨j - 1, by omega⟩
  rw [L24_9_s, l24_9, bif_f (by omega), drop_nil (by rw [List.length_take]; omega)]
  simp [sumA]
 | d + 1, n, j, x, h1, hj, hx, hb => by
  obtain ⟨j', rfl⟩ : ∃ j', j = j' + 1 := ⟨j - 1, by omega⟩
  have hll := h.len
  have hn : n < (l.take i).length := by rw [List.length_take]; omega
  have hg : (l.take i).getD n t0 = l.getD n t0 := by
   rw [List.getD_eq_getElem?_getD, List.getD_eq_getElem?_getD, List.getElem?_take, if_pos (by omega)]
  have hc := h.co _ (getD_mem (z := t0) (show n < l.length by omega))
  have hper := hc.per; have hco := hc.cost; have hen := hc.en
  have hu := up_bd hr.1 hper.1
  have hmul := Int.mul_nonneg hu.1 (show 0 ≤ (costsT (l.getD n t0)).1 by omega)
  have hrest : 0 ≤ sumA r (((l.take i).drop (n + 1)).map pc1) := sumA_nonneg hr.1 (fun y hy => by
   obtain ⟨t, ht, rfl⟩ := List.mem_map.1 hy
   have q := h.co t (List.mem_of_mem_take (List.mem_of_mem_drop ht))
   have := q.cost; have := q.per
   unfold pc1; simp only; omega)
  have hlen : ((l.take (i + 1)).map per1).length = i + 1 := by rw [List.length_map, List.length_take]; omega
  have hlen2 : ((l.take (i + 1)).map cst1).length = i + 1 := by rw [List.length_map, List.length_take]; omega
  have ih := L24_9_eq (k := k) h hi (y1 := y1) (y2 := y2) hr d (n + 1) j' (x + up r (l.getD n t0).2.1 * (costsT (l.getD n t0)).1) (by omega) (by omega) (by omega)
  rw [drop_cons t0 hn, List.map_cons, sumA, hg] at hb ⊢
  have e1 : (pc1 (l.getD n t0)).1 = (l.getD n t0).2.1 := rfl
  have e2 : (pc1 (l.getD n t0)).2 = (costsT (l.getD n t0)).1 := rfl
  rw [e1, e2] at hb ⊢
  have ih := ih (by omega)
  rw [L24_9_s, l24_9, bif_t (by omega), cond_true, ix_nat (by omega), rd_nat, get_map1 (by omega) hi, show per1 (l.getD n t0) = (l.getD n t0).2.1 from rfl, S46_eq k (by omega) hper.1, Option.bind_some, ix_nat (by omega), rd_nat, get_map1 (by omega) hi, show cst1 (l.getD n t0) = (costsT (l.getD n t0)).1 from rfl]
  simp only
  rw [S47_eq k (by omega) (by omega) (by omega), Option.bind_some]
  simp only [cond_true]
  rw [S45_eq k hx hmul (by omega), Option.bind_some, w64_nat (by omega), ← Int.add_assoc]
  exact ih
theorem S24_eq {k : Nat} (hk : 1000 ≤ k) {l : List Tk} (h : RS l) {i : Nat} (hi : i < l.length) {apart r : Int} (ha : 1 ≤ apart) (hr : 0 ≤ r ∧ r ≤ 50000) : S24 k ((l.take (i + 1)).map cst1, lostG 0 (l.take (i + 1)), byT l (i : Int), (l.take (i + 1)).map per1) apart r = some ((rightT l i apart r, true, ()), ()) := by
 have hll := h.len
 have hlen2 : ((l.take (i + 1)).map cst1).length = i + 1 := by rw [List.length_map, List.length_take]; omega
 have hb := byT_bd h.co (i : Int)
 have hc := h.co _ (getD_mem (z := t0) hi)
 have hper := hc.per; have hco := hc.cost; have hen := hc.en
 have hls := h.lost (i + 1)
 have hlo := h.loss (i := i) ha hr
 have hsu := h.sum (i := i) hr
 have hu := up_bd hr.1 ha
 have hfi := h.first hi
 unfold S24
 simp only
 rw [hlen2, w64 (n := ((i + 1 : Nat) : Int) - 1) (by omega) (by omega), show ((i + 1 : Nat) : Int) - 1 = (i : Int) by omega, ix_nat (by omega), rd_nat, get_map1 (by omega) hi, show cst1 (l.getD i t0) = (costsT (l.getD i t0)).1 from rfl, S45_eq k (by omega) (by omega) (by omega), Option.bind_some, S46_eq k (by omega) ha, Option.bind_some]
 simp only
 rw [S47_eq k (by omega) (by omega) (by omega), Option.bind_some]
 simp only [cond_true]
 unfold j24_6
 rw [cond_true, show (costsT (l.getD i t0)).1 + byT l (i : Int) = firstT l i from rfl, S45_eq k (by omega) (by omega) (by omega), Option.bind_some]
 refine (L24_9_eq h hi hr i 0 k (firstT l i + up r apart * lostG 0 (l.take (i + 1))) (by omega) (by omega) (by omega) (by rw [List.drop_zero]; omega)).trans ?_
 rw [List.drop_zero]; rfl
end Go.Proofs.YteflacbgobpmcaaGreat.Ab

/- Both answers are one: the law of all rows. -/
namespace Go.Proofs.YteflacbgobpmcaaGreat.Ab
open Go.RowKit Tr
set_option linter.unusedSimpArgs false
set_option linter.unusedVariables false
end Go.Proofs.YteflacbgobpmcaaGreat.Ab

/- What the rounds come to: the least that is so, or nothing up to the end. -/
namespace Go.Proofs.YteflacbgobpmcaaGreat.Ab
open Go.RowKit Tr
set_option linter.unusedSimpArgs false
set_option linter.unusedVariables false
theorem respG_spec {en : Int} {right : Int → Int} (hm : ∀ a b, 0 ≤ a → a ≤ b → right a ≤ right b) : ∀ (f : Nat) (r n : Int) (y : Int × Int × Int), 0 ≤ r → r ≤ right r → r ≤ en ∨ right r > en → respG en right f r n = some y →
  (y = (0, 0, 14) ∧ ∀ x, r ≤ x → x ≤ en → right x ≠ x) ∨ (y.2.2 = 0 ∧ right y.1 = y.1 ∧ r ≤ y.1 ∧ y.1 ≤ en ∧ n ≤ y.2.1 ∧ y.2.1 - n ≤ y.1 - r ∧ (right r ≠ r → n + 1 ≤ y.2.1) ∧ ∀ x, r ≤ x → right x = x → y.1 ≤ x)
 | 0, r, n, y, _, _, _, e => by cases e
 | f + 1, r, n, y, h0, h1, h2, e => by
  rw [respG] at e
  split at e
  ·rename_i q
   injection e with e; subst e
   refine .inl ⟨rfl, fun x hx hxe hf => ?_⟩
   have := hm r x h0 hx
   omega
  ·rename_i q
   split at e
   ·rename_i q2
    injection e with e; subst e
    refine .inr ⟨rfl, q2, Int.le_refl _, by omega, Int.le_refl _, by simp only; omega, fun h => absurd q2 h, fun x hx _ => hx⟩
   ·rename_i q2
    have hr := hm r (right r) h0 h1
    rcases respG_spec hm f (right r) (n + 1) y (by omega) hr (.inl (by omega)) e with ⟨a, b⟩ | ⟨a1, a2, a3, a4, a5, a6, a7, a8⟩
    ·refine .inl ⟨a, fun x hx hxe hf => ?_⟩
     have := hm r x h0 hx
     exact b x (by omega) hxe hf
    ·refine .inr ⟨a1, a2, by omega, a4, by omega, by omega, fun _ => by omega, fun x hx hf => ?_⟩
     have := hm r x h0 hx
     exact a8 x (by omega) hf
theorem RowOK.row {locks : Int} {l : List Tk} (h : RowOK locks l) : rowT l = true := by
 unfold rowT
 rw [Bool.not_eq_true', anyF_none]
 intro n _ hn
 unfold badR
 rw [h.may n (by omega), bne_self_eq_false, Bool.false_or, Bool.and_eq_false_iff]
 by_cases h0 : (n : Int) > 0
 ·right
  obtain ⟨r, m1, m2, m3⟩ := h.mt n (by omega)
  obtain ⟨r2, p1, p2, p3⟩ := h.mt (n - 1) (by omega)
  have e1 := m1.rank
  have e2 := p1.rank
  exact decide_eq_false (by rw [e1, e2]; omega)
 ·left; exact decide_eq_false h0
end Go.Proofs.YteflacbgobpmcaaGreat.Ab

/- What is told is no less than cost, what holds up, one loss, one go of each ahead. -/
namespace Go.Proofs.YteflacbgobpmcaaGreat.Ab
open Go.RowKit Tr
set_option linter.unusedSimpArgs false
set_option linter.unusedVariables false
theorem take_snoc {l : List Tk} {i : Nat} (hi : i < l.length) : l.take (i + 1) = l.take i ++ [l.getD i t0] := by
 rw [List.take_add_one, List.getElem?_eq_getElem hi, List.getD_eq_getElem?_getD, List.getElem?_eq_getElem hi]; rfl
end Go.Proofs.YteflacbgobpmcaaGreat.Ab

/- The law of what makes it no longer. -/
namespace Go.Proofs.YteflacbgobpmcaaGreat.Ab
open Go.RowKit Tr
set_option linter.unusedSimpArgs false
set_option linter.unusedVariables false
theorem respG_below {en z : Int} {right : Int → Int} (hm : ∀ a b, 0 ≤ a → a ≤ b → right a ≤ right b) (h2 : right z ≤ z) (h3 : z ≤ en) : ∀ (f : Nat) (r n : Int) (y : Int × Int × Int), 0 ≤ r → r ≤ z → r ≤ right r → respG en right f r n = some y → y.2.2 = 0 ∧ y.1 ≤ z
 | 0, r, n, y, _, _, _, e => by cases e
 | f + 1, r, n, y, h0, h1, hr, e => by
  have := hm r z h0 h1
  rw [respG, if_neg (by omega)] at e
  split at e
  ·injection e with e; subst e; exact ⟨rfl, h1⟩
  ·exact respG_below hm h2 h3 f (right r) (n + 1) y (by omega) (by omega) (hm r _ h0 hr) e
theorem respT_below {l : List Tk} (hr : rowT l = true) (h : RS l) {i : Nat} (hi : i < l.length) {apart z : Int} (ha : 1 ≤ apart) (h1 : firstT l i ≤ z) (h2 : rightT l i apart z ≤ z) (h3 : z ≤ (l.getD i t0).2.2.1) : (respT l (i : Int) apart).2.2 = 0 ∧ (respT l (i : Int) apart).1 ≤ z := by
 obtain ⟨y, hy⟩ := resp_some h hi ha
 have hf := h.first hi
 rw [respT_at hr hi ha hy]
 exact respG_below (right_mono h ha) h2 h3 _ _ _ _ (by omega) h1 (h.right hi ha (by omega)).1 hy
theorem row_iff {l : List Tk} : rowT l = true ↔ ∀ n, n < l.length → mayT (l.getD n t0) = 0 ∧ (0 < n → (l.getD (n - 1) t0).1 < (l.getD n t0).1) := by
 unfold rowT
 rw [Bool.not_eq_true', anyF_none]
 constructor
 ·intro h n hn
  have := h n (by omega) (by omega)
  unfold badR at this
  rw [Bool.or_eq_false_iff, Bool.and_eq_false_iff] at this
  refine ⟨by simpa using this.1, fun h0 => ?_⟩
  rcases this.2 with q | q
  ·exact absurd (of_decide_eq_false q) (by omega)
  ·have := of_decide_eq_false q; omega
 ·intro h n _ hn
  obtain ⟨a, b⟩ := h n (by omega)
  unfold badR
  rw [a, bne_self_eq_false, Bool.false_or, Bool.and_eq_false_iff]
  by_cases h0 : 0 < n
  ·right; exact decide_eq_false (by have := b h0; omega)
  ·left; exact decide_eq_false (by omega)
theorem wf_u8e {n : Int} (h : (Lit.int .u8 n).wf = true) : 0 ≤ n ∧ n ≤ 255 := by
 simp [Lit.wf, IntKind.min, IntKind.max, IntKind.signed, IntKind.bits] at h
 omega
end Go.Proofs.YteflacbgobpmcaaGreat.Ab

/- Who may come in: the program's answer. -/
namespace Go.Proofs.YteflacbgobpmcaaGreat.Ab
open Go.RowKit Tr
set_option linter.unusedSimpArgs false
set_option linter.unusedVariables false
abbrev Bd5 : Type := PN Int 5
noncomputable def bT (l : List Tk) (ap : Int) (i : Nat) : Bd5 := ((costsT (l.getD i t0)).1, (costsT (l.getD i t0)).2.1, byT l (i : Int), (respT l (i : Int) ap).1, (l.getD i t0).2.2.1 - (respT l (i : Int) ap).1)
noncomputable def allG (l : List Tk) (ap : Int) : Nat → Nat → List Bd5 → List Bd5 × Int
 | 0, _, out => (out, 0)
 | d + 1, i, out => if (respT l (i : Int) ap).2.2 = 0 then allG l ap d (i + 1) (out ++ [bT l ap i]) else ([], (respT l (i : Int) ap).2.2)
noncomputable def allT (l : List Tk) (ap : Int) : List Bd5 × Int := if ap < 1 then ([], 1) else allG l ap l.length 0 []
theorem respT_ok {l : List Tk} (hL : lightL l) (hl : l.length ≤ 10) {i : Nat} {ap : Int} (h : (respT l (i : Int) ap).2.2 = 0) : rowT l = true ∧ i < l.length ∧ 1 ≤ ap ∧ 1 ≤ (respT l (i : Int) ap).1 ∧ firstT l i ≤ (respT l (i : Int) ap).1 ∧ (respT l (i : Int) ap).1 ≤ (l.getD i t0).2.2.1 ∧ rightT l i ap (respT l (i : Int) ap).1 = (respT l (i : Int) ap).1 := by
 by_cases hc : rowT l = true ∧ 0 ≤ (i : Int) ∧ (i : Int) < (l.length : Int) ∧ 1 ≤ ap
 ·obtain ⟨h1, _, h3, h4⟩ := hc
  have hi : i < l.length := by omega
  have hR := row_rs h1 hL hl
  obtain ⟨y, hy⟩ := resp_some hR hi h4
  have hf := hR.first hi
  rw [respT_at h1 hi h4 hy] at h ⊢
  rcases respG_spec (right_mono hR h4) 20000 (firstT l i) 1 y (by omega) (hR.right hi h4 (by omega)).1 (by have := (hR.right hi h4 (r := firstT l i) (by omega)).1; omega) hy with ⟨e, _⟩ | ⟨a1, a2, a3, a4, _⟩
  ·rw [e] at h; exact absurd h (by decide)
  ·exact ⟨h1, hi, h4, by omega, a3, a4, a2⟩
 ·unfold respT at h
  rw [if_neg hc] at h
  exact absurd h (by decide)
theorem L21_4_eq {k : Nat} (hk : 20000 ≤ k) {l : List Tk} (hL : lightL l) (hl : l.length ≤ 10) {ap : Int} : ∀ (d i j : Nat) (out : List Bd5), i + d = l.length → d < j → out.length ≤ i →
  L21_4 k j l ap out l (l.length : Int) (i : Int) = some (((allG l ap d i out).1, (allG l ap d i out).2, ()), ())
 | 0, i, j, out, h, hj, ho => by
  obtain ⟨j', rfl⟩ : ∃ j', j = j' + 1 := ⟨j - 1, by omega⟩
  rw [L21_4_s, l21_4, bif_f (by omega), allG]
 | d + 1, i, j, out, h, hj, ho => by
  obtain ⟨j', rfl⟩ : ∃ j', j = j' + 1 := ⟨j - 1, by omega⟩
  have hi : i < l.length := by omega
  have ht := (hL.2 _ (getD_mem (z := t0) hi)).1
  rw [L21_4_s, l21_4, bif_t (by omega), ix_nat hi, S12_eq hk hL hl, Option.bind_some, allG, rd_nat, show l.getD i (0, 0, 0, [], [], []) = l.getD i t0 from rfl]
  simp only
  by_cases he : (respT l (i : Int) ap).2.2 = 0
  ·obtain ⟨h1, _, h3, h4, h5, h6, h7⟩ := respT_ok hL hl he
   have hc := (row_rs h1 hL hl).co _ (getD_mem (z := t0) hi)
   have := hc.en; have := hc.per
   rw [if_pos he, he]
   simp only [bne_self_eq_false, cond_false]
   rw [S27_eq (by omega) ht, Option.bind_some, S29_eq (by omega) hL, Option.bind_some, ap_ok (by simp only [List.length_cons, List.length_nil]; omega), w64_nat (by omega), w64 (by omega) (by omega)]
   exact L21_4_eq hk hL hl d (i + 1) j' _ (by omega) (by omega) (by simp only [List.length_append, List.length_cons, List.length_nil]; omega)
  ·rw [if_neg he, show ((respT l (i : Int) ap).2.2 != 0) = true by rw [bne_iff_ne]; exact he, cond_true]
theorem S21_eq {k : Nat} (hk : 20000 ≤ k) {l : List Tk} (hL : lightL l) (hl : l.length ≤ 10) (ap : Int) : S21 k l ap = some (((allT l ap).1, (allT l ap).2, ()), ()) := by
 unfold S21 allT
 by_cases h : ap < 1
 ·rw [bif_t h, if_pos h]
 ·rw [bif_f h, if_neg h]
  exact L21_4_eq hk hL hl l.length 0 k [] (by omega) (by omega) (by simp)
def posT (r : Int) : List Tk → Nat
 | [] => 0
 | x :: l => bif decide (x.1 < r) then posT r l + 1 else 0
theorem posT_le (r : Int) : ∀ l : List Tk, posT r l ≤ l.length
 | [] => Nat.le_refl _
 | x :: l => by
  rw [posT]
  cases decide (x.1 < r) with
  | true => rw [cond_true, List.length_cons]; have := posT_le r l; omega
  | false => rw [cond_false]; omega
theorem posT_unique (r : Int) : ∀ (l : List Tk) (n : Nat), n ≤ l.length → (∀ a, a < n → (l.getD a t0).1 < r) → (n < l.length → ¬ (l.getD n t0).1 < r) → posT r l = n
 | [], n, h, _, _ => by simp at h; rw [h]; rfl
 | x :: l, 0, _, _, h2 => by
  have h3 : ¬ x.1 < r := h2 (by simp)
  rw [posT, decide_eq_false h3, cond_false]
 | x :: l, n + 1, h, h1, h2 => by
  have h3 : x.1 < r := h1 0 (by omega)
  rw [posT, decide_eq_true h3, cond_true, posT_unique r l n (by simpa using h) (fun a ha => h1 (a + 1) (by omega)) (fun hn => h2 (by simpa using hn))]
noncomputable def putT (l : List Tk) (t : Tk) : List Tk := l.take (posT t.1 l) ++ [t] ++ l.drop (posT t.1 l)
theorem putT_len (l : List Tk) (t : Tk) : (putT l t).length = l.length + 1 := by
 have := posT_le t.1 l
 unfold putT
 simp only [List.length_append, List.length_take, List.length_drop, List.length_cons, List.length_nil]; omega
theorem putT_light {l : List Tk} {t : Tk} (h : lightL l) (hl : l.length ≤ 50) (ht : lightT t ∧ (t.2.2.2.1 ++ t.2.2.2.2.1).length ≤ 900) : lightL (putT l t) := ⟨by rw [putT_len]; omega, fun x hx => by
 unfold putT at hx
 simp only [List.mem_append, List.mem_singleton] at hx
 rcases hx with (hx | hx) | hx
 ·exact h.2 x (List.mem_of_mem_take hx)
 ·rw [hx]; exact ht
 ·exact h.2 x (List.mem_of_mem_drop hx)⟩
noncomputable def inT (l : List Tk) (t : Tk) (ap : Int) : List Tk × List Bd5 × Int :=
 if mayT t ≠ 0 then ([], [], mayT t) else if l.any (fun x => x.1 == t.1) = true then ([], [], 11) else if 8 ≤ l.length then ([], [], 4)
 else if (allT (putT l t) ap).2 ≠ 0 then ([], [], (allT (putT l t) ap).2) else (putT l t, (allT (putT l t) ap).1, 0)
theorem S38_eq {k : Nat} {xs : List I4} (h : xs.length ≤ 900) : S38 k xs = some ((xs, ()), ()) := by
 unfold S38 cloneSem
 exact if_pos (by rw [lenL_eq]; show xs.length * _ ≤ _; omega)
theorem S17_eq {k : Nat} {t : Tk} (h : lightT t) : S17 k t = some ((t, ()), ()) := by
 unfold S17
 rw [S38_eq h.1, Option.bind_some, S38_eq h.2.1, Option.bind_some, S38_eq h.2.2, Option.bind_some]
theorem S20_eq {k : Nat} {l : List Tk} {p : Nat} {t : Tk} (hp : p ≤ l.length) (hl : l.length ≤ 1000) : S20 k l (p : Int) [t] = some ((l.take p ++ [t] ++ l.drop p, ()), ()) := by
 unfold S20 insSem
 refine if_pos ?_
 simp only [Bool.and_eq_true]
 refine ⟨decide_eq_true (Int.natCast_nonneg p), decide_eq_true (Int.ofNat_le.2 hp), decide_eq_true ?_⟩
 show (l.length + 1) * _ ≤ _
 omega
theorem idx_pos {l : List Tk} {r : Int} (h : l.any (fun x => x.1 == r) = false) : (if idxI (fun x : Tk => decide (x.1 > r)) l < 0 then (l.length : Int) else idxI (fun x : Tk => decide (x.1 > r)) l) = (posT r l : Int) := by
 have hne : ∀ a, a < l.length → (l.getD a t0).1 ≠ r := fun a ha e => by
  rw [List.any_eq_false] at h
  exact h _ (getD_mem (z := t0) ha) (by rw [e]; exact beq_self_eq_true r)
 unfold idxI
 cases hf : l.findIdx? (fun x : Tk => decide (x.1 > r)) with
 | none =>
  rw [List.findIdx?_eq_none_iff] at hf
  simp only
  rw [if_pos (by omega), posT_unique r l l.length (Nat.le_refl _) (fun a ha => by
   have := hf _ (getD_mem (z := t0) ha)
   have := of_decide_eq_false this
   have := hne a ha
   omega) (fun h => absurd h (by omega))]
 | some n =>
  rw [List.findIdx?_eq_some_iff_getElem] at hf
  obtain ⟨hn, h1, h2⟩ := hf
  have gd : ∀ a (ha : a < l.length), l.getD a t0 = l[a] := fun a ha => by rw [List.getD_eq_getElem?_getD, List.getElem?_eq_getElem ha]; rfl
  simp only
  rw [if_neg (by omega), posT_unique r l n (by omega) (fun a ha => by
   have h3 := h2 a ha
   have h4 := hne a (by omega)
   rw [gd a (by omega)] at h4 ⊢
   simp only [decide_eq_true_eq] at h3
   omega) (fun _ => by
   rw [gd n hn]
   have := of_decide_eq_true h1
   omega)]
end Go.Proofs.YteflacbgobpmcaaGreat.Ab

/- Who may come in: both answers. -/
namespace Go.Proofs.YteflacbgobpmcaaGreat.Ab
open Go.RowKit Tr
set_option linter.unusedSimpArgs false
set_option linter.unusedVariables false
theorem mget_up (x y : Int) (c : List (Int × Bool)) : mget (.int .i64) .bool x (updD (.int .i64) .bool y true c) false = ((y == x) || mget (.int .i64) .bool x c false) := by
 unfold mget
 rw [lookD_upd (hb := ibeq)]
 by_cases e : y = x
 ·subst e; simp [beqD]
 ·have h1 : beqD (.int .i64) x y = false := by simp [beqD]; exact fun h => e h.symm
  rw [h1, show (y == x) = false by rw [beq_eq_false_iff_ne]; exact e]
  simp
structure OKin (l : List Tk) (t : Tk) : Prop where
 light : lightL l
 len : l.length ≤ 9
 one : lightT t ∧ (t.2.2.2.1 ++ t.2.2.2.2.1).length ≤ 900
theorem L8_16_eq {k : Nat} (hk : 20000 ≤ k) {l : List Tk} {t : Tk} (h : OKin l t) {ap : Int} (hany : l.any (fun x => x.1 == t.1) = false) : ∀ (d n j : Nat), n + d = l.length → d < j →
  L8_16 k j ap t.1 t.2.1 t.2.2.1 t.2.2.2.1 t.2.2.2.2.1 t.2.2.2.2.2 (l.take n) l (l.length : Int) (n : Int) = some ((if (allT (putT l t) ap).2 ≠ 0 then ([], [], (allT (putT l t) ap).2, ()) else (putT l t, (allT (putT l t) ap).1, 0, ())), ())
 | 0, n, j, h1, hj => by
  obtain ⟨j', rfl⟩ : ∃ j', j = j' + 1 := ⟨j - 1, by omega⟩
  have hl := h.len
  have hn : n = l.length := by omega
  have hp := posT_le t.1 l
  have hpl := putT_light h.light (by omega) h.one
  have hpn := putT_len l t
  have jn : j8_23 k ap t.1 t.2.1 t.2.2.1 t.2.2.2.1 t.2.2.2.2.1 t.2.2.2.2.2 l ((posT t.1 l : Nat) : Int) = some ((if (allT (putT l t) ap).2 ≠ 0 then ([], [], (allT (putT l t) ap).2, ()) else (putT l t, (allT (putT l t) ap).1, 0, ())), ()) := by
   unfold j8_23
   rw [show (t.1, t.2.1, t.2.2.1, t.2.2.2.1, t.2.2.2.2.1, t.2.2.2.2.2) = t from rfl, S17_eq h.one.1, Option.bind_some]
   simp only
   rw [S20_eq hp (by omega), Option.bind_some]
   show (S21 k (putT l t) ap).bind _ = _
   rw [S21_eq hk hpl (by omega), Option.bind_some]
   simp only
   by_cases he : (allT (putT l t) ap).2 = 0
   ·rw [he, if_neg (by simp)]; rfl
   ·rw [if_pos he, show ((allT (putT l t) ap).2 != 0) = true by rw [bne_iff_ne]; exact he, cond_true]
  have hidx := idx_pos hany
  rw [L8_16_s, l8_16, bif_f (by omega), hn, List.take_length]
  unfold S18
  have := idx_all (fun j i => L18_2 k j l (t.1, t.2.1, t.2.2.1, t.2.2.2.1, t.2.2.2.2.1, t.2.2.2.2.2) (l.length : Int) i) l t0 (fun x : Tk => decide (x.1 > t.1)) (fun j i hi => by
   show L18_2 k (j + 1) l _ (l.length : Int) (i : Int) = _
   rw [L18_2_s, l18_2, bif_t (by omega), ix_nat hi, w64_nat (by omega), rd_nat]
   unfold S19
   rfl) (fun j => by
   show L18_2 k (j + 1) l _ (l.length : Int) (l.length : Int) = _
   rw [L18_2_s, l18_2, bif_f (by omega)]) k (by omega)
  rw [show L18_2 k k l (t.1, t.2.1, t.2.2.1, t.2.2.2.1, t.2.2.2.2.1, t.2.2.2.2.2) (l.length : Int) 0 = _ from this, Option.bind_some]
  simp only
  by_cases hi : idxI (fun x : Tk => decide (x.1 > t.1)) l < 0
  ·rw [if_pos hi] at hidx
   rw [bif_t hi, hidx]; exact jn
  ·rw [if_neg hi] at hidx
   rw [bif_f hi, hidx]; exact jn
 | d + 1, n, j, h1, hj => by
  obtain ⟨j', rfl⟩ : ∃ j', j = j' + 1 := ⟨j - 1, by omega⟩
  have hl := h.len
  have hn : n < l.length := by omega
  have ht := (h.light.2 _ (getD_mem (z := t0) hn)).1
  rw [L8_16_s, l8_16, bif_t (by omega), ix_nat hn, rd_nat, show l.getD n (0, 0, 0, [], [], []) = l.getD n t0 from rfl, S17_eq ht, Option.bind_some]
  simp only
  rw [ap_ok (by simp only [List.length_take, List.length_cons, List.length_nil]; omega), w64_nat (by omega), ← take_snoc hn]
  exact L8_16_eq hk h hany d (n + 1) j' (by omega) (by omega)
theorem L8_3_eq {k : Nat} (hk : 20000 ≤ k) {l : List Tk} {t : Tk} (h : OKin l t) {ap : Int} : ∀ (d n j : Nat) (c : List (Int × Bool)), n + d = l.length → d < j → (mget (.int .i64) .bool t.1 c false = (l.take n).any (fun x => x.1 == t.1)) →
  L8_3 k j l ap t.1 t.2.1 t.2.2.1 t.2.2.2.1 t.2.2.2.2.1 t.2.2.2.2.2 c l (l.length : Int) (n : Int) = some (((inT l t ap).1, (inT l t ap).2.1, (inT l t ap).2.2, ()), ())
 | 0, n, j, c, h1, hj, hc => by
  obtain ⟨j', rfl⟩ : ∃ j', j = j' + 1 := ⟨j - 1, by omega⟩
  have hl := h.len
  rw [L8_3_s, l8_3, bif_f (by omega), show (t.1, t.2.1, t.2.2.1, t.2.2.2.1, t.2.2.2.2.1, t.2.2.2.2.2) = t from rfl, S16_eq (by omega) h.one.1, Option.bind_some, hc, List.take_of_length_le (by omega)]
  simp only
  unfold inT
  by_cases hz : mayT t = 0
  ·rw [if_neg (by omega), hz]
   simp only [bne_self_eq_false, cond_false]
   cases ha : l.any (fun x => x.1 == t.1) with
   | true => rw [if_pos rfl, cond_true]
   | false =>
    rw [if_neg (by simp), cond_false]
    by_cases h8 : 8 ≤ l.length
    ·rw [if_pos h8, bif_t (by omega)]
    ·rw [if_neg h8, bif_f (by omega)]
     have := L8_16_eq hk h (ap := ap) ha l.length 0 k (by omega) (by omega)
     rw [List.take_zero] at this
     refine Eq.trans this ?_
     split <;> rfl
  ·rw [if_pos hz, show (mayT t != 0) = true by rw [bne_iff_ne]; exact hz, cond_true]
 | d + 1, n, j, c, h1, hj, hc => by
  obtain ⟨j', rfl⟩ : ∃ j', j = j' + 1 := ⟨j - 1, by omega⟩
  have hl := h.len
  have hn : n < l.length := by omega
  rw [L8_3_s, l8_3, bif_t (by omega), ix_nat hn, rd_nat, show l.getD n (0, 0, 0, [], [], []) = l.getD n t0 from rfl, w64_nat (by omega)]
  refine L8_3_eq hk h d (n + 1) j' _ (by omega) (by omega) ?_
  rw [mget_up, hc, take_snoc hn, List.any_append, List.any_cons, List.any_nil, Bool.or_false, Bool.or_comm]
theorem S8_eq {k : Nat} (hk : 20000 ≤ k) {l : List Tk} {t : Tk} (h : OKin l t) (ap : Int) : S8 k l t ap = some (((inT l t ap).1, (inT l t ap).2.1, (inT l t ap).2.2, ()), ()) := by
 have hl := h.len
 exact L8_3_eq hk h l.length 0 k [] (by omega) (by omega) (by rw [List.take_zero]; rfl)
def risesL (l : List Tk) : Prop := ∀ a b, a < b → b < l.length → (l.getD a t0).1 < (l.getD b t0).1
theorem row_rises {l : List Tk} (h : rowT l = true) : risesL l := fun a b hab hb => by
 rw [row_iff] at h
 induction b with
 | zero => omega
 | succ b ih =>
  have h1 := (h (b + 1) hb).2 (by omega)
  rw [show b + 1 - 1 = b by omega] at h1
  by_cases e : a = b
  ·rw [e]; exact h1
  ·have := ih (by omega) (by omega); omega
/-! ### the same -/
theorem S48_eq {k : Nat} (hk : 1000 ≤ k) {a : List I4} (ha : a.length ≤ 900) : S48 k a a = some ((true, ()), ()) := by
 unfold S48
 simp only [bne_self_eq_false, cond_false]
 have key : ∀ (d i j : Nat), i + d = a.length → d < j → L48_4 k j a a (i : Int) = some ((true, ()), ()) := by
  intro d
  induction d with
  | zero =>
   intro i j h hj
   obtain ⟨j', rfl⟩ : ∃ j', j = j' + 1 := ⟨j - 1, by omega⟩
   rw [L48_4_s, l48_4, bif_f (by omega)]
  | succ d ih =>
   intro i j h hj
   obtain ⟨j', rfl⟩ : ∃ j', j = j' + 1 := ⟨j - 1, by omega⟩
   rw [L48_4_s, l48_4, bif_t (by omega), ix_nat (by omega), ix_nat (by omega), w64_nat (by omega)]
   have : ∀ x : I4, beqD (.pair (.int .i64) (.pair (.int .i64) (.pair (.int .i64) (.int .i64)))) x x = true := fun x => by simp [beqD]
   rw [this, Bool.not_true, cond_false]
   exact ih (i + 1) j' (by omega) (by omega)
 exact key a.length 0 k (by omega) (by omega)
theorem S25_eq {k : Nat} (hk : 1000 ≤ k) {t : Tk} (h : lightT t) : S25 k t t = some ((true, ()), ()) := by
 unfold S25
 simp only [beq_self_eq_true, cond_true, S48_eq hk h.1, S48_eq hk h.2.1, S48_eq hk h.2.2, Option.bind_some]
theorem S11_eq {k : Nat} (hk : 1000 ≤ k) {l : List Tk} (h : lightL l) : S11 k l l = some ((true, ()), ()) := by
 have hl := h.1
 unfold S11
 simp only [bne_self_eq_false, cond_false]
 have key : ∀ (d i j : Nat), i + d = l.length → d < j → L11_4 k j l l (i : Int) = some ((true, ()), ()) := by
  intro d
  induction d with
  | zero =>
   intro i j h hj
   obtain ⟨j', rfl⟩ : ∃ j', j = j' + 1 := ⟨j - 1, by omega⟩
   rw [L11_4_s, l11_4, bif_f (by omega)]
  | succ d ih =>
   intro i j h1 hj
   obtain ⟨j', rfl⟩ : ∃ j', j = j' + 1 := ⟨j - 1, by omega⟩
   have ht := (h.2 _ (getD_mem (z := t0) (show i < l.length by omega))).1
   rw [L11_4_s, l11_4, bif_t (by omega), ix_nat (by omega), ix_nat (by omega), rd_nat, show l.getD i (0, 0, 0, [], [], []) = l.getD i t0 from rfl, S25_eq hk ht, Option.bind_some, w64_nat (by omega)]
   exact ih (i + 1) j' (by omega) (by omega)
 exact key l.length 0 k (by omega) (by omega)
end Go.Proofs.YteflacbgobpmcaaGreat.Ab

/- The law of all who come in. -/
namespace Go.Proofs.YteflacbgobpmcaaGreat.Ab
open Go.RowKit Tr
set_option linter.unusedSimpArgs false
set_option linter.unusedVariables false
end Go.Proofs.YteflacbgobpmcaaGreat.Ab

/- A row of which some are left: bounds are no greater. -/
namespace Go.Proofs.YteflacbgobpmcaaGreat.Ab
open Go.RowKit Tr
set_option linter.unusedSimpArgs false
set_option linter.unusedVariables false
structure Emb (s l : List Tk) (f : Nat → Nat) : Prop where
 lt : ∀ a, a < s.length → f a < l.length
 eq : ∀ a, a < s.length → s.getD a t0 = l.getD (f a) t0
 mono : ∀ a b, a < b → b < s.length → f a < f b
theorem mx_le_iff {a b c : Int} : mx a b ≤ c ↔ a ≤ c ∧ b ≤ c := by unfold mx; split <;> omega
theorem spF_le_iff {l : List Tk} {i b : Int} : ∀ (sp : List (Int × Int)) (m : Int), spF l i m sp ≤ b ↔ m ≤ b ∧ ∀ e ∈ sp, ceilT l e.1 ≤ i → e.2 ≤ b
 | [], m => by simp [spF]
 | e :: r, m => by
  rw [spF, spF_le_iff r]
  simp only [List.mem_cons, forall_eq_or_imp]
  by_cases h : ceilT l e.1 ≤ i
  ·rw [decide_eq_true h, cond_true, mx_le_iff]
   exact ⟨fun q => ⟨q.1.1, fun _ => q.1.2, q.2⟩, fun q => ⟨⟨q.1, q.2.1 h⟩, q.2.2⟩⟩
  ·rw [decide_eq_false h, cond_false]
   exact ⟨fun q => ⟨q.1, fun h2 => absurd h2 h, q.2⟩, fun q => ⟨q.1, q.2.2⟩⟩
theorem byG_le_iff {l : List Tk} {i b : Int} : ∀ (r : List Tk) (n : Nat) (m : Int), byG l i r n m ≤ b ↔ m ≤ b ∧ ∀ j, j < r.length → ((n + j : Nat) : Int) ≠ i → ∀ e ∈ (costsT (r.getD j t0)).2.2, ceilT l e.1 ≤ i → e.2 ≤ b
 | [], n, m => by simp [byG]
 | t :: r, n, m => by
  rw [byG, byG_le_iff r]
  constructor
  ·intro ⟨h1, h2⟩
   cases hc : ((n : Int) == i) with
   | true =>
    rw [hc, cond_true] at h1
    refine ⟨h1, fun j hj hne => ?_⟩
    cases j with
    | zero => exact absurd (eq_of_beq hc) hne
    | succ j => exact h2 j (by simpa using hj) (by rw [show n + 1 + j = n + (j + 1) by omega]; exact hne)
   | false =>
    rw [hc, cond_false, spF_le_iff] at h1
    refine ⟨h1.1, fun j hj hne => ?_⟩
    cases j with
    | zero => exact h1.2
    | succ j => exact h2 j (by simpa using hj) (by rw [show n + 1 + j = n + (j + 1) by omega]; exact hne)
  ·intro ⟨h1, h2⟩
   refine ⟨?_, fun j hj hne => h2 (j + 1) (by simpa using hj) (by rw [show n + (j + 1) = n + 1 + j by omega]; exact hne)⟩
   cases hc : ((n : Int) == i) with
   | true => exact h1
   | false =>
    rw [cond_false, spF_le_iff]
    exact ⟨h1, h2 0 (by simp) (by rw [beq_eq_false_iff_ne] at hc; exact hc)⟩
theorem lostG_le_iff {b : Int} : ∀ (r : List Tk) (m : Int), lostG m r ≤ b ↔ m ≤ b ∧ ∀ t ∈ r, (costsT t).2.1 ≤ b
 | [], m => by simp [lostG]
 | t :: r, m => by
  rw [lostG, lostG_le_iff r, mx_le_iff]
  simp only [List.mem_cons, forall_eq_or_imp]
  exact and_assoc
theorem sumA_app (x : Int) : ∀ a b : List (Int × Int), sumA x (a ++ b) = sumA x a + sumA x b
 | [], b => by simp [sumA]
 | p :: a, b => by rw [List.cons_append, sumA, sumA, sumA_app x a b]; omega
section
variable {s l : List Tk} {f : Nat → Nat} (h : Emb s l f)
include h
theorem Emb.ceil {i : Nat} (hi : i < s.length) (h8 : s.length ≤ 8) {e : Int} (hc : ceilT s e ≤ (i : Int)) : ceilT l e ≤ ((f i : Nat) : Int) := by
 unfold ceilT at hc ⊢
 rcases ceilG_case e s 0 with ⟨q, _⟩ | ⟨n, hn, q, hl⟩
 ·omega
 ·rw [h.eq n hn] at hl
  have := ceilG_le e l 0 (f n) (h.lt n hn) hl
  have h2 : f n ≤ f i := by
   by_cases e : n = i
   ·rw [e]; exact Nat.le_refl _
   ·exact Nat.le_of_lt (h.mono n i (by omega) hi)
  omega
theorem Emb.by {i : Nat} (hi : i < s.length) (h8 : s.length ≤ 8) : byT s (i : Int) ≤ byT l ((f i : Nat) : Int) := by
 unfold byT
 rw [byG_le_iff]
 obtain ⟨h1, h2⟩ := (byG_le_iff (l := l) (i := ((f i : Nat) : Int)) l 0 0).1 (Int.le_refl _)
 refine ⟨h1, fun j hj hne e he hc => ?_⟩
 rw [Nat.zero_add] at hne
 have hfne : f j ≠ f i := by
  rcases Nat.lt_or_gt_of_ne (show j ≠ i from fun e => hne (by rw [e])) with q | q
  ·exact Nat.ne_of_lt (h.mono j i q hi)
  ·exact Nat.ne_of_gt (h.mono i j q hj)
 exact h2 (f j) (h.lt j hj) (by rw [Nat.zero_add]; omega) e (by rw [← h.eq j hj]; exact he) (h.ceil hi h8 hc)
theorem Emb.lost {i : Nat} (hi : i < s.length) : lostG 0 (s.take (i + 1)) ≤ lostG 0 (l.take (f i + 1)) := by
 rw [lostG_le_iff]
 obtain ⟨h1, h2⟩ := (lostG_le_iff (l.take (f i + 1)) 0).1 (Int.le_refl _)
 refine ⟨h1, fun t ht => h2 t ?_⟩
 obtain ⟨a, ha, e⟩ := List.mem_iff_getElem.1 ht
 rw [List.length_take] at ha
 have e1 : t = s.getD a t0 := by rw [← e, List.getElem_take, List.getD_eq_getElem?_getD, List.getElem?_eq_getElem (by omega)]; rfl
 have hfa : f a ≤ f i := by
  by_cases e : a = i
  ·rw [e]; exact Nat.le_refl _
  ·exact Nat.le_of_lt (h.mono a i (by omega) hi)
 have hla := h.lt a (by omega)
 rw [e1, h.eq a (by omega)]
 rw [List.getD_eq_getElem?_getD, List.getElem?_eq_getElem hla, List.mem_iff_getElem]
 exact ⟨f a, by rw [List.length_take]; omega, by rw [List.getElem_take]; rfl⟩
theorem Emb.sum (hco : ∀ t ∈ l, CoS t) {x : Int} (hx : 0 ≤ x) : ∀ a, a ≤ s.length → ∀ n, n ≤ l.length → (∀ b, b < a → f b < n) → sumA x ((s.take a).map pc1) ≤ sumA x ((l.take n).map pc1)
 | 0, _, n, hn, _ => by
  rw [List.take_zero]
  exact sumA_nonneg hx (fun y hy => by
   obtain ⟨t, ht, rfl⟩ := List.mem_map.1 hy
   have q := hco t (List.mem_of_mem_take ht)
   have := q.cost; have := q.per
   unfold pc1; simp only; omega)
 | a + 1, ha, n, hn, hb => by
  have hfa := hb a (by omega)
  have hla : f a < l.length := h.lt a (by omega)
  have ih := Emb.sum hco hx a (by omega) (f a) (by omega) (fun b hb => h.mono b a hb (by omega))
  rw [take_snoc (show a < s.length by omega), List.map_append, sumA_app, h.eq a (by omega)]
  have e : l.take n = l.take (f a) ++ [l.getD (f a) t0] ++ (l.take n).drop (f a + 1) := by
   rw [← take_snoc hla]
   have := (List.take_append_drop (f a + 1) (l.take n)).symm
   rwa [List.take_take, Nat.min_eq_left (by omega)] at this
  rw [e, List.map_append, List.map_append, sumA_app, sumA_app]
  have : 0 ≤ sumA x (((l.take n).drop (f a + 1)).map pc1) := sumA_nonneg hx (fun y hy => by
   obtain ⟨t, ht, rfl⟩ := List.mem_map.1 hy
   have q := hco t (List.mem_of_mem_take (List.mem_of_mem_drop ht))
   have := q.cost; have := q.per
   unfold pc1; simp only; omega)
  omega
theorem Emb.right (hco : RS l) {i : Nat} (hi : i < s.length) (h8 : s.length ≤ 8) {ap x : Int} (ha : 1 ≤ ap) (hx : 0 ≤ x) : firstT s i ≤ firstT l (f i) ∧ rightT s i ap x ≤ rightT l (f i) ap x := by
 have h1 := h.by hi h8
 have h2 := h.lost hi
 have h3 := h.sum hco.co hx i (by omega) (f i) (Nat.le_of_lt (h.lt i hi)) (fun b hb => h.mono b i hb hi)
 have h4 := Int.mul_le_mul_of_nonneg_left h2 (up_bd hx ha).1
 have hf : firstT s i ≤ firstT l (f i) := by unfold firstT; rw [h.eq i hi]; omega
 refine ⟨hf, ?_⟩
 unfold rightT; omega
theorem Emb.row (hr : rowT l = true) : rowT s = true := by
 have hri := row_rises hr
 rw [row_iff] at hr ⊢
 intro n hn
 rw [h.eq n hn]
 refine ⟨(hr _ (h.lt n hn)).1, fun h0 => ?_⟩
 rw [h.eq (n - 1) (by omega)]
 exact hri _ _ (h.mono (n - 1) n (by omega) hn) (h.lt n hn)
theorem Emb.light (hL : lightL l) (hs : s.length ≤ 100) : lightL s := ⟨hs, fun t ht => by
 obtain ⟨a, ha, e⟩ := List.mem_iff_getElem.1 ht
 have e1 : t = s.getD a t0 := by rw [← e, List.getD_eq_getElem?_getD, List.getElem?_eq_getElem ha]; rfl
 rw [e1, h.eq a ha]
 exact hL.2 _ (getD_mem (h.lt a ha))⟩
theorem Emb.resp (hL : lightL l) (hl : l.length ≤ 10) (h8 : s.length ≤ 8) {i : Nat} (hi : i < s.length) {ap : Int} (he : (respT l ((f i : Nat) : Int) ap).2.2 = 0) : (respT s (i : Int) ap).2.2 = 0 ∧ (respT s (i : Int) ap).1 ≤ (respT l ((f i : Nat) : Int) ap).1 := by
 obtain ⟨h1, h2, h3, h4, h5, h6, h7⟩ := respT_ok hL hl he
 have hR := row_rs h1 hL hl
 have hs := row_rs (h.row h1) (h.light hL (by omega)) (by omega)
 obtain ⟨q1, q2⟩ := h.right hR hi h8 (ap := ap) (x := (respT l ((f i : Nat) : Int) ap).1) h3 (by omega)
 exact respT_below (h.row h1) hs hi h3 (by omega) (by omega) (by rw [h.eq i hi]; exact h6)
end
theorem allG_ok {l : List Tk} {ap : Int} : ∀ (d i : Nat) (out : List Bd5), (∀ a, i ≤ a → a < i + d → (respT l (a : Int) ap).2.2 = 0) → allG l ap d i out = (out ++ (List.range' i d).map (bT l ap), 0)
 | 0, i, out, _ => by rw [allG]; simp
 | d + 1, i, out, h => by
  rw [allG, if_pos (h i (Nat.le_refl _) (by omega)), allG_ok d (i + 1) _ (fun a h1 h2 => h a (by omega) (by omega)), List.range'_succ, List.map_cons, List.append_assoc]; rfl
theorem allG_good {l : List Tk} {ap : Int} : ∀ (d i : Nat) (out : List Bd5), (allG l ap d i out).2 = 0 → ∀ a, i ≤ a → a < i + d → (respT l (a : Int) ap).2.2 = 0
 | 0, i, out, _, a, h1, h2 => by omega
 | d + 1, i, out, h, a, h1, h2 => by
  rw [allG] at h
  by_cases he : (respT l (i : Int) ap).2.2 = 0
  ·rw [if_pos he] at h
   by_cases e : a = i
   ·rw [e]; exact he
   ·exact allG_good d (i + 1) _ h a (by omega) (by omega)
  ·rw [if_neg he] at h; exact absurd h he
theorem allT_of {l : List Tk} {ap : Int} (ha : 1 ≤ ap) (h : ∀ i, i < l.length → (respT l (i : Int) ap).2.2 = 0) : allT l ap = ((List.range l.length).map (bT l ap), 0) := by
 unfold allT
 rw [if_neg (by omega), allG_ok l.length 0 [] (fun a _ h2 => h a (by omega)), List.nil_append, ← List.range_eq_range']
theorem allT_good {l : List Tk} {ap : Int} (h : (allT l ap).2 = 0) : 1 ≤ ap ∧ ∀ i, i < l.length → (respT l (i : Int) ap).2.2 = 0 := by
 unfold allT at h
 by_cases ha : ap < 1
 ·rw [if_pos ha] at h; exact absurd h (by decide)
 ·rw [if_neg ha] at h
  exact ⟨by omega, fun i hi => allG_good l.length 0 [] h i (by omega) (by omega)⟩
theorem range_get {α : Type} {g : Nat → α} {n i : Nat} {z : α} (h : i < n) : ((List.range n).map g).getD i z = g i := by
 rw [List.getD_eq_getElem?_getD, List.getElem?_map, List.getElem?_range h]; rfl
theorem Emb.all {s l : List Tk} {f : Nat → Nat} (h : Emb s l f) (hL : lightL l) (hl : l.length ≤ 10) (h8 : s.length ≤ 8) {ap : Int} (he : (allT l ap).2 = 0) : allT s ap = ((List.range s.length).map (bT s ap), 0) := by
 obtain ⟨h1, h2⟩ := allT_good he
 exact allT_of h1 (fun i hi => (h.resp hL hl h8 hi (h2 _ (h.lt i hi))).1)
end Go.Proofs.YteflacbgobpmcaaGreat.Ab

/- The law of places by rank. -/
namespace Go.Proofs.YteflacbgobpmcaaGreat.Ab
open Go.RowKit Tr
set_option linter.unusedSimpArgs false
set_option linter.unusedVariables false
theorem posT_spec (r : Int) : ∀ l : List Tk, ∀ a, a < posT r l → (l.getD a t0).1 < r
 | [], a, h => by simp [posT] at h
 | x :: l, a, h => by
  rw [posT] at h
  by_cases hx : x.1 < r
  ·rw [decide_eq_true hx, cond_true] at h
   cases a with
   | zero => exact hx
   | succ a => exact posT_spec r l a (by omega)
  ·rw [decide_eq_false hx, cond_false] at h; omega
theorem putT_get {l : List Tk} {t : Tk} {i : Nat} (hi : i < l.length + 1) : (putT l t).getD i t0 = if i < posT t.1 l then l.getD i t0 else if i = posT t.1 l then t else l.getD (i - 1) t0 := by
 have hp := posT_le t.1 l
 unfold putT
 split
 ·rename_i h
  rw [List.append_assoc, getD_app_l (by rw [List.length_take]; omega), List.getD_eq_getElem?_getD, List.getElem?_take, if_pos h, List.getD_eq_getElem?_getD]
 ·rename_i h
  split
  ·rename_i e
   rw [List.append_assoc, getD_app_r (by rw [List.length_take]; omega), List.length_take, e, show posT t.1 l - min (posT t.1 l) l.length = 0 by omega]; rfl
  ·rename_i e
   rw [getD_app_r (by simp only [List.length_append, List.length_take, List.length_cons, List.length_nil]; omega)]
   simp only [List.length_append, List.length_take, List.length_cons, List.length_nil]
   rw [List.getD_eq_getElem?_getD, List.getElem?_drop, List.getD_eq_getElem?_getD]
   congr 2; omega
theorem inT_no {l : List Tk} {t : Tk} {ap : Int} (h : (inT l t ap).2.2 ≠ 0) : (inT l t ap).1 = [] ∧ (inT l t ap).2.1 = [] := by
 unfold inT at h ⊢
 split
 ·exact ⟨rfl, rfl⟩
 ·rename_i q
  rw [if_neg q] at h
  split
  ·exact ⟨rfl, rfl⟩
  ·rename_i q2
   rw [if_neg q2] at h
   split
   ·exact ⟨rfl, rfl⟩
   ·rename_i q3
    rw [if_neg q3] at h
    split
    ·exact ⟨rfl, rfl⟩
    ·rename_i q4
     rw [if_neg q4] at h
     exact absurd rfl h
end Go.Proofs.YteflacbgobpmcaaGreat.Ab

/- Does the whole do anything. -/
namespace Go.Proofs.YteflacbgobpmcaaGreat.Ab
open Go.RowKit
set_option linter.unusedSimpArgs false
set_option linter.unusedVariables false
theorem S4_eq {k : Nat} (hk : 20000 ≤ k) : S4 k = some ((true, ()), ()) := by
 obtain ⟨k, rfl⟩ : ∃ m, k = m + 20000 := ⟨k - 20000, by omega⟩
 kernel_rfl
end Go.Proofs.YteflacbgobpmcaaGreat.Ab

/- Who is let in, the least bound: what the law's own helpers tell. -/
namespace Go.Proofs.YteflacbgobpmcaaGreat.Ab
open Go.RowKit Tr
set_option linter.unusedSimpArgs false
set_option linter.unusedVariables false
theorem posT_stop (r : Int) : ∀ l : List Tk, posT r l < l.length → ¬ (l.getD (posT r l) t0).1 < r
 | [], h => by simp at h
 | x :: l, h => by
  by_cases hx : x.1 < r
  ·have e : posT r (x :: l) = posT r l + 1 := by rw [posT, decide_eq_true hx, cond_true]
   rw [e] at h ⊢
   exact posT_stop r l (by simp only [List.length_cons] at h; omega)
  ·have e : posT r (x :: l) = 0 := by rw [posT, decide_eq_false hx, cond_false]
   rw [e]; exact hx
theorem row_put {l : List Tk} {t : Tk} (h : rowT l = true) (ht : mayT t = 0) (ha : l.any (fun x => x.1 == t.1) = false) : rowT (putT l t) = true := by
 have hp := posT_le t.1 l
 have hne : ∀ a, a < l.length → (l.getD a t0).1 ≠ t.1 := fun a h1 e => by
  rw [List.any_eq_false] at ha
  exact ha _ (getD_mem (z := t0) h1) (by rw [e]; exact beq_self_eq_true _)
 rw [row_iff] at h ⊢
 intro n hn
 rw [putT_len] at hn
 refine ⟨?_, fun h0 => ?_⟩
 ·rw [putT_get hn]
  split
  ·exact (h n (by omega)).1
  ·split
   ·exact ht
   ·exact (h (n - 1) (by omega)).1
 ·rw [putT_get hn, putT_get (show n - 1 < l.length + 1 by omega)]
  by_cases c1 : n < posT t.1 l
  ·rw [if_pos c1, if_pos (show n - 1 < posT t.1 l by omega)]
   exact (h n (by omega)).2 h0
  ·rw [if_neg c1]
   by_cases c2 : n = posT t.1 l
   ·rw [if_pos c2, if_pos (show n - 1 < posT t.1 l by omega)]
    exact posT_spec t.1 l (n - 1) (by omega)
   ·rw [if_neg c2, if_neg (show ¬ n - 1 < posT t.1 l by omega)]
    by_cases c3 : n - 1 = posT t.1 l
    ·rw [if_pos c3, c3]
     have h1 := posT_stop t.1 l (by omega)
     have h2 := hne (posT t.1 l) (by omega)
     omega
    ·rw [if_neg c3]
     exact (h (n - 1) (by omega)).2 (by omega)
theorem L9_3_eq {k : Nat} (hk : 1000 ≤ k) {l : List Tk} {t : Tk} (h : OKin l t) (h8 : l.length < 8) (hr : risesL l) : ∀ (d n p j : Nat), n + d = l.length → d < j → p ≤ n → (l.take n).any (fun x => x.1 == t.1) = false → (∀ a, a < p → (l.getD a t0).1 < t.1) → (∀ a, p ≤ a → a < n → ¬ (l.getD a t0).1 < t.1) →
  L9_3 k j l t.1 t.2.1 t.2.2.1 t.2.2.2.1 t.2.2.2.2.1 t.2.2.2.2.2 (p : Int) (n : Int) = some ((if l.any (fun x => x.1 == t.1) = true then ([], false, ()) else (putT l t, mayT t == 0, ())), ())
 | 0, n, p, j, h1, hj, hp, ha, q1, q2 => by
  obtain ⟨j', rfl⟩ : ∃ j', j = j' + 1 := ⟨j - 1, by omega⟩
  have hn : n = l.length := by omega
  subst hn
  rw [List.take_length] at ha
  have hpos := posT_unique t.1 l p hp q1 (fun hh => q2 p (Nat.le_refl _) hh)
  rw [L9_3_s, l9_3, bif_f (by omega), ha, if_neg (by simp)]
  rw [sx_ok (by omega) (by omega) (by omega), ap_ok (by simp only [List.length_nil, sub, List.length_drop, List.length_take]; omega), ap_ok (by simp only [List.length_append, List.length_cons, List.length_nil, sub, List.length_drop, List.length_take]; omega), sx_ok (by omega) (by omega) (by omega), ap_ok (by simp only [List.length_append, List.length_cons, List.length_nil, sub, List.length_drop, List.length_take]; omega)]
  rw [show [] ++ sub l 0 (p : Int) ++ [(t.1, t.2.1, t.2.2.1, t.2.2.2.1, t.2.2.2.2.1, t.2.2.2.2.2)] ++ sub l (p : Int) (l.length : Int) = putT l t by
    unfold putT; rw [hpos]; simp [sub], show (t.1, t.2.1, t.2.2.1, t.2.2.2.1, t.2.2.2.2.1, t.2.2.2.2.2) = t from rfl, S22_eq hk h.one.1, Option.bind_some]
  simp only
  cases mayT t == 0 with
  | true => rw [cond_true, decide_eq_true (by omega)]
  | false => rfl
 | d + 1, n, p, j, h1, hj, hp, ha, q1, q2 => by
  obtain ⟨j', rfl⟩ : ∃ j', j = j' + 1 := ⟨j - 1, by omega⟩
  have hn : n < l.length := by omega
  rw [L9_3_s, l9_3, bif_t (by omega), ix_nat hn, rd_nat, show l.getD n (0, 0, 0, [], [], []) = l.getD n t0 from rfl, w64_nat (by omega)]
  cases he : (l.getD n t0).1 == t.1 with
  | true =>
   have : l.any (fun x => x.1 == t.1) = true := List.any_eq_true.2 ⟨_, getD_mem (z := t0) hn, he⟩
   rw [this, if_pos rfl, cond_true]
  | false =>
   have ha2 : (l.take (n + 1)).any (fun x => x.1 == t.1) = false := by rw [take_snoc hn, List.any_append, ha, List.any_cons, he]; rfl
   rw [cond_false, ix_nat hn]
   by_cases hlt : (l.getD n t0).1 < t.1
   ·rw [bif_t hlt]
    exact L9_3_eq hk h h8 hr d (n + 1) (n + 1) j' (by omega) (by omega) (Nat.le_refl _) ha2 (fun a ha => by
     by_cases e : a = n
     ·rw [e]; exact hlt
     ·have := hr a n (by omega) hn; omega) (fun a h2 h3 => by omega)
   ·rw [bif_f hlt]
    exact L9_3_eq hk h h8 hr d (n + 1) p j' (by omega) (by omega) (by omega) ha2 q1 (fun a h2 h3 => by
     by_cases e : a = n
     ·rw [e]; exact hlt
     ·exact q2 a h2 (by omega))
theorem S9_eq {k : Nat} (hk : 1000 ≤ k) {l : List Tk} {t : Tk} (h : OKin l t) (h8 : l.length < 8) (hr : risesL l) : S9 k l t = some ((if l.any (fun x => x.1 == t.1) = true then ([], false, ()) else (putT l t, mayT t == 0, ())), ()) :=
 L9_3_eq hk h h8 hr l.length 0 0 k (by omega) (by omega) (Nat.le_refl _) (by simp) (fun a ha => by omega) (fun a h1 h2 => by omega)
theorem resp_cases {l : List Tk} (hrow : rowT l = true) (h : RS l) {i : Nat} (hi : i < l.length) {ap : Int} (ha : 1 ≤ ap) : (respT l (i : Int) ap = (0, 0, 14) ∧ ∀ x, 1 ≤ x → x ≤ (l.getD i t0).2.2.1 → rightT l i ap x ≠ x) ∨ ((respT l (i : Int) ap).2.2 = 0 ∧ 1 ≤ (respT l (i : Int) ap).1 ∧ (respT l (i : Int) ap).1 ≤ (l.getD i t0).2.2.1 ∧ rightT l i ap (respT l (i : Int) ap).1 = (respT l (i : Int) ap).1 ∧ ∀ x, 1 ≤ x → rightT l i ap x = x → (respT l (i : Int) ap).1 ≤ x) := by
 have hen := (h.co _ (getD_mem (z := t0) hi)).en
 have hper := (h.co _ (getD_mem (z := t0) hi)).per
 obtain ⟨y, hy⟩ := resp_some h hi ha
 have hf := h.first hi
 have hs := respG_spec (right_mono h ha) 20000 (firstT l i) 1 y (by omega) (h.right hi ha (by omega)).1 (by have := (h.right hi ha (r := firstT l i) (by omega)).1; omega) hy
 have hfix : ∀ x, 1 ≤ x → rightT l i ap x = x → x ≤ 50000 → firstT l i ≤ x := fun x hx e hb => by
  have := (h.right hi ha (r := x) (by omega)).1; omega
 rw [respT_at hrow hi ha hy]
 rcases hs with ⟨e, q⟩ | ⟨a1, a2, a3, a4, a5, a6, a7, a8⟩
 ·exact .inl ⟨e, fun x hx hxe hr => q x (hfix x hx hr (by omega)) hxe hr⟩
 ·refine .inr ⟨a1, by omega, a4, a2, fun x hx hr => ?_⟩
  by_cases hb : x ≤ 50000
  ·exact a8 x (hfix x hx hr hb) hr
  ·omega
noncomputable def leastV (l : List Tk) (i : Nat) (ap : Int) : Int := if (respT l (i : Int) ap).2.2 = 0 then (respT l (i : Int) ap).1 else 0
theorem leastV_pos {l : List Tk} (hrow : rowT l = true) (h : RS l) {i : Nat} (hi : i < l.length) {ap : Int} (ha : 1 ≤ ap) : 0 < leastV l i ap ↔ (respT l (i : Int) ap).2.2 = 0 := by
 unfold leastV
 rcases resp_cases hrow h hi ha with ⟨e, _⟩ | ⟨e, e1, _⟩
 ·rw [e]; simp
 ·rw [if_pos e]; exact ⟨fun _ => e, fun _ => by omega⟩
theorem L10_3_eq {k : Nat} (hk : 1000 ≤ k) {l : List Tk} (hrow : rowT l = true) (h : RS l) {i : Nat} (hi : i < l.length) {ap : Int} (ha : 1 ≤ ap) :
  ∀ (d j : Nat) (x : Int), x + d = (l.getD i t0).2.2.1 + 1 → d < j → 1 ≤ x → (∀ y, 1 ≤ y → y < x → rightT l i ap y ≠ y) →
  L10_3 k j l (i : Int) ap ((l.take (i + 1)).map cst1) (lostG 0 (l.take (i + 1))) (byT l (i : Int)) ((l.take (i + 1)).map per1) x = some ((leastV l i ap, ()), ())
 | 0, j, x, h1, hj, hx, hn => by
  obtain ⟨j', rfl⟩ : ∃ j', j = j' + 1 := ⟨j - 1, by omega⟩
  rw [L10_3_s, l10_3, ix_nat hi, rd_nat, show l.getD i (0, 0, 0, [], [], []) = l.getD i t0 from rfl, bif_f (by omega)]
  unfold leastV
  rcases resp_cases hrow h hi ha with ⟨e, _⟩ | ⟨e, e1, e2, e3, _⟩
  ·rw [e]; rfl
  ·exact absurd e3 (hn _ e1 (by omega))
 | d + 1, j, x, h1, hj, hx, hn => by
  obtain ⟨j', rfl⟩ : ∃ j', j = j' + 1 := ⟨j - 1, by omega⟩
  have hen := (h.co _ (getD_mem (z := t0) hi)).en
  have hper := (h.co _ (getD_mem (z := t0) hi)).per
  rw [L10_3_s, l10_3, ix_nat hi, rd_nat, show l.getD i (0, 0, 0, [], [], []) = l.getD i t0 from rfl, bif_t (by omega), S24_eq hk h hi ha (by omega), Option.bind_some]
  simp only [cond_true]
  rw [w64 (n := x + 1) (by omega) (by omega)]
  by_cases he : rightT l i ap x = x
  ·rw [he, beq_self_eq_true, cond_true]
   unfold leastV
   rcases resp_cases hrow h hi ha with ⟨_, q⟩ | ⟨e, e1, e2, e3, e4⟩
   ·exact absurd he (q x hx (by omega))
   ·have := e4 x hx he
    have : ¬ (respT l (i : Int) ap).1 < x := fun c => hn _ e1 c e3
    rw [if_pos e, show (respT l (i : Int) ap).1 = x by omega]
  ·rw [show (rightT l i ap x == x) = false by rw [beq_eq_false_iff_ne]; exact he, cond_false]
   exact L10_3_eq hk hrow h hi ha d j' (x + 1) (by omega) (by omega) (by omega) (fun y h2 h3 => by
    by_cases e : y = x
    ·rw [e]; exact he
    ·exact hn y h2 (by omega))
theorem S10_eq {k : Nat} (hk : 20000 ≤ k) {l : List Tk} (hrow : rowT l = true) (h : RS l) {i : Nat} (hi : i < l.length) {ap : Int} (ha : 1 ≤ ap) : S10 k l (i : Int) ap = some ((leastV l i ap, ()), ()) := by
 have hen := (h.co _ (getD_mem (z := t0) hi)).en
 have hper := (h.co _ (getD_mem (z := t0) hi)).per
 unfold S10
 rw [S23_eq (by omega) h.light hi, Option.bind_some]
 exact L10_3_eq (by omega) hrow h hi ha (l.getD i t0).2.2.1.toNat k 1 (by omega) (by omega) (by omega) (fun y h1 h2 => by omega)
theorem allG_14 {l : List Tk} {ap : Int} : ∀ (d i : Nat) (out : List Bd5), (∀ a, i ≤ a → a < i + d → (respT l (a : Int) ap).2.2 = 0 ∨ (respT l (a : Int) ap).2.2 = 14) → (allG l ap d i out).2 = 0 ∨ (allG l ap d i out).2 = 14
 | 0, i, out, _ => .inl rfl
 | d + 1, i, out, h => by
  rw [allG]
  split
  ·exact allG_14 d (i + 1) _ (fun a h1 h2 => h a (by omega) (by omega))
  ·rename_i q
   rcases h i (Nat.le_refl _) (by omega) with e | e
   ·exact absurd e q
   ·exact .inr e
theorem inT_fit {l : List Tk} {t : Tk} {ap : Int} (hr : rowT l = true) (h : OKin l t) (h8 : l.length < 8) (ha : 1 ≤ ap) (ht : mayT t = 0) (hn : l.any (fun x => x.1 == t.1) = false) : inT l t ap = if (allT (putT l t) ap).2 = 0 then (putT l t, (allT (putT l t) ap).1, 0) else ([], [], 14) := by
 have hrow := row_put hr ht hn
 have hL := putT_light h.light (by omega) h.one
 have hlen := putT_len l t
 have hR := row_rs hrow hL (by omega)
 have h14 : (allT (putT l t) ap).2 = 0 ∨ (allT (putT l t) ap).2 = 14 := by
  unfold allT
  rw [if_neg (by omega)]
  exact allG_14 _ _ _ (fun a _ h2 => by
   rcases resp_cases hrow hR (show a < (putT l t).length by omega) ha with ⟨e, _⟩ | ⟨e, _⟩
   ·exact .inr (by rw [e])
   ·exact .inl e)
 unfold inT
 rw [if_neg (by omega), hn, if_neg (by simp), if_neg (by omega)]
 rcases h14 with e | e
 ·rw [if_neg (by omega), if_pos e]
 ·rw [if_pos (by omega), if_neg (by omega), e]
end Go.Proofs.YteflacbgobpmcaaGreat.Ab

/- The law: a row is let in just if the least bound of each is not above its end. -/
namespace Go.Proofs.YteflacbgobpmcaaGreat.Ab
open Go.RowKit Tr
set_option linter.unusedSimpArgs false
set_option linter.unusedVariables false
theorem L3_28_eq {k : Nat} (hk : 20000 ≤ k) {g : Int → List Int → Int → List Tk → Int → Int → Option ((Bool × Unit) × Unit)} {l : List Tk} (hrow : rowT l = true) (h : RS l) {a : Int} (ha : 0 ≤ a ∧ a ≤ 255) {b : List Int} {c e f : Int} (hall : ∀ i, i < l.length → (respT l (i : Int) (1 + a)).2.2 = 0) : ∀ (d i j : Nat), i + d = l.length → d < j →
  L3_28 k g j a b c e f ((List.range l.length).map (bT l (1 + a))) l (i : Int) = g a b c l e (IntKind.i64.wrap (f - 1))
 | 0, i, j, h1, hj => by
  obtain ⟨j', rfl⟩ : ∃ j', j = j' + 1 := ⟨j - 1, by omega⟩
  rw [L3_28_s, l3_28, bif_f (by omega)]
 | d + 1, i, j, h1, hj => by
  obtain ⟨j', rfl⟩ : ∃ j', j = j' + 1 := ⟨j - 1, by omega⟩
  have hi : i < l.length := by omega
  have hlen := h.len
  have hz := hall i hi
  have hen := (h.co _ (getD_mem (z := t0) hi)).en
  have hper := (h.co _ (getD_mem (z := t0) hi)).per
  have hc : 1 ≤ (respT l (i : Int) (1 + a)).1 ∧ (respT l (i : Int) (1 + a)).1 ≤ (l.getD i t0).2.2.1 := by
   rcases resp_cases hrow h hi (show 1 ≤ 1 + a by omega) with ⟨q, _⟩ | ⟨_, q1, q2, _⟩
   ·rw [q] at hz; exact absurd hz (by decide)
   ·exact ⟨q1, q2⟩
  have hib : i < ((List.range l.length).map (bT l (1 + a))).length := by simpa using hi
  rw [L3_28_s, l3_28, bif_t (by omega), w64 (n := a) (by omega) (by omega), w64 (n := 1 + a) (by omega) (by omega), S12_eq hk h.light hlen, Option.bind_some]
  simp only
  rw [hz, S10_eq hk hrow h hi (by omega), ix_nat hib, ix_nat hib, ix_nat hib, ix_nat hi, rd_nat, rd_nat, range_get hi, show l.getD i (0, 0, 0, [], [], []) = l.getD i t0 from rfl, Option.bind_some]
  have hv : leastV l i (1 + a) = (respT l (i : Int) (1 + a)).1 := by unfold leastV; rw [if_pos hz]
  simp only [hv]
  rw [show (bT l (1 + a) i).2.2.2.1 = (respT l (i : Int) (1 + a)).1 from rfl, show (bT l (1 + a) i).2.2.2.2 = (l.getD i t0).2.2.1 - (respT l (i : Int) (1 + a)).1 from rfl, w64 (n := (l.getD i t0).2.2.1 - (respT l (i : Int) (1 + a)).1) (by omega) (by omega)]
  simp only [bne_self_eq_false, cond_false]
  rw [bif_f (show ¬ ((l.getD i t0).2.2.1 - (respT l (i : Int) (1 + a)).1 < 0) by omega), w64_nat (by omega)]
  exact L3_28_eq hk hrow h ha hall d (i + 1) j' (by omega) (by omega)
theorem L3_19_eq {k : Nat} (hk : 20000 ≤ k) {g : Int → List Int → Int → List Tk → Int → Int → Option ((Bool × Unit) × Unit)} {l : List Tk} (hrow : rowT l = true) (h : RS l) {a : Int} (ha : 0 ≤ a ∧ a ≤ 255) {b : List Int} {c e2 f e : Int} {l0 x : List Tk} {bs : List Bd5} : ∀ (d i j : Nat), i + d = l.length → d + 1 < j → (∀ n, n < i → (respT l (n : Int) (1 + a)).2.2 = 0) →
  L3_19 k g j a b c l0 e2 f x bs e l true (i : Int) = j3_22 k g a b c l0 e2 f x bs e l (decide ((allT l (1 + a)).2 = 0))
 | 0, i, j, h1, hj, hn => by
  obtain ⟨j', rfl⟩ : ∃ j', j = j' + 1 := ⟨j - 1, by omega⟩
  rw [L3_19_s, l3_19, bif_f (by omega), allT_of (by omega) (fun n h2 => hn n (by omega))]
  rfl
 | d + 1, i, j, h1, hj, hn => by
  obtain ⟨j', rfl⟩ : ∃ j', j = j' + 1 := ⟨j - 1, by omega⟩
  have hi : i < l.length := by omega
  have hlen := h.len
  rw [L3_19_s, l3_19, bif_t (by omega), cond_true, w64 (n := a) (by omega) (by omega), w64 (n := 1 + a) (by omega) (by omega), S10_eq hk hrow h hi (by omega), Option.bind_some, w64_nat (by omega)]
  simp only
  by_cases hz : (respT l (i : Int) (1 + a)).2.2 = 0
  ·rw [decide_eq_true ((leastV_pos hrow h hi (show 1 ≤ 1 + a by omega)).2 hz)]
   exact L3_19_eq hk hrow h ha d (i + 1) j' (by omega) (by omega) (fun n h2 => by
    by_cases q : n = i
    ·rw [q]; exact hz
    ·exact hn n (by omega))
  ·rw [decide_eq_false (fun q => hz ((leastV_pos hrow h hi (show 1 ≤ 1 + a by omega)).1 q)), decide_eq_false (fun q => hz ((allT_good q).2 i hi))]
   obtain ⟨j'', rfl⟩ : ∃ j'', j' = j'' + 1 := ⟨j' - 1, by omega⟩
   rw [L3_19_s, l3_19]
   cases decide ((((i + 1 : Nat) : Int)) < (l.length : Int)) <;> rfl
theorem L3_9_eq {k : Nat} (hk : 20000 ≤ k) {a : Int} (ha : 0 ≤ a ∧ a ≤ 255) {p : List Int} {locks : Int} (hl : 0 ≤ locks ∧ locks ≤ 4) : ∀ (m j : Nat) (n : Int) (l : List Tk), m < j → l.length + m ≤ 6 → PkOK p n → rowT l = true → lightL l →
  L3_9 k j a p n l locks (m : Int) = some ((true, ()), ())
 | 0, j, n, l, hj, hm, hp, hr, hL => by
  obtain ⟨j', rfl⟩ : ∃ j', j = j' + 1 := ⟨j - 1, by omega⟩
  rw [L3_9_s, l3_9, bif_f (by omega)]
 | m + 1, j, n, l, hj, hm, hp, hr, hL => by
  obtain ⟨j', rfl⟩ : ∃ j', j = j' + 1 := ⟨j - 1, by omega⟩
  obtain ⟨v, n1, e1, hv, hp1⟩ := S6_eq k hp (show (0 : Int) < 40 by omega)
  obtain ⟨t, n2, e2, hp2, ht⟩ := S7_eq (k := k) (by omega) (rank := v) hl hp1
  have hc := ht.code
  have ho : OKin l t := ⟨hL, by omega, ht.light, by omega⟩
  have ih : ∀ x : List Tk, x.length ≤ l.length + 1 → rowT x = true → lightL x → L3_9 k j' a p n2 x locks (IntKind.i64.wrap (((m + 1 : Nat) : Int) - 1)) = some ((true, ()), ()) := fun x h1 h2 h3 => by
   rw [w64 (n := ((m + 1 : Nat) : Int) - 1) (by omega) (by omega), show ((m + 1 : Nat) : Int) - 1 = (m : Int) by omega]
   exact L3_9_eq hk ha hl m j' n2 x (by omega) (by omega) hp2 h2 h3
  rw [L3_9_s, l3_9, bif_t (by omega), e1, Option.bind_some]
  simp only
  rw [e2, Option.bind_some]
  simp only
  rw [w64 (n := a) (by omega) (by omega), w64 (n := 1 + a) (by omega) (by omega), S8_eq hk ho, Option.bind_some, S9_eq (by omega) ho (by omega) (row_rises hr), Option.bind_some]
  simp only
  have bad : (inT l t (1 + a)).2.2 ≠ 0 → (bif (inT l t (1 + a)).2.2 == 0 then some ((false, ()), ()) else bif decide (((inT l t (1 + a)).1.length : Int) > 0) then some ((false, ()), ()) else bif decide (((inT l t (1 + a)).2.1.length : Int) > 0) then some ((false, ()), ()) else L3_9 k j' a p n2 l locks (IntKind.i64.wrap (((m + 1 : Nat) : Int) - 1))) = some ((true, ()), ()) := fun hne => by
   obtain ⟨q1, q2⟩ := inT_no hne
   rw [show ((inT l t (1 + a)).2.2 == 0) = false by rw [beq_eq_false_iff_ne]; exact hne, cond_false, q1, q2, bif_f (by simp), bif_f (by simp)]
   exact ih l (by omega) hr hL
  by_cases hany : l.any (fun x => x.1 == t.1) = true
  ·rw [if_pos hany]
   simp only [Bool.not_false, cond_true]
   refine bad ?_
   unfold inT
   split
   ·rename_i q; exact q
   ·decide
  ·rw [if_neg hany]
   have hany' : l.any (fun x => x.1 == t.1) = false := Bool.eq_false_iff.2 hany
   simp only
   by_cases hz : mayT t = 0
   ·rw [hz]
    simp only [beq_self_eq_true, Bool.not_true, cond_false]
    have hrow := row_put hr hz hany'
    have hLp := putT_light hL (by omega) ho.one
    have hlen := putT_len l t
    have hR := row_rs hrow hLp (by omega)
    refine (L3_19_eq hk hrow hR ha (putT l t).length 0 k (by omega) (by omega) (fun n h => by omega)).trans ?_
    rw [inT_fit hr ho (by omega) (by omega) hz hany']
    unfold j3_22 j3_24
    by_cases hf : (allT (putT l t) (1 + a)).2 = 0
    ·rw [decide_eq_true hf, if_pos hf]
     have hg := (allT_good hf).2
     rw [allT_of (by omega) hg]
     simp only [beq_self_eq_true, Bool.not_true, cond_false]
     rw [S11_eq (by omega) hLp, Option.bind_some]
     simp only [Bool.not_true, cond_false]
     rw [show ((List.map (bT (putT l t) (1 + a)) (List.range (putT l t).length)).length : Int) = ((putT l t).length : Int) by simp, bne_self_eq_false, cond_false]
     refine (L3_28_eq hk hrow hR ha hg (putT l t).length 0 k (by omega) (by omega)).trans ?_
     exact ih _ (by omega) hrow hLp
    ·rw [decide_eq_false hf, if_neg hf]
     exact ih l (by omega) hr hL
   ·rw [show (mayT t == 0) = false by rw [beq_eq_false_iff_ne]; exact hz]
    simp only [Bool.not_false, cond_true]
    refine bad ?_
    unfold inT
    rw [if_pos hz]
    exact hz
theorem topLetIn_pure {p : List Int} {a : Int} {e : TypeId} (hp : Ty.fine (.sl e (.int .u8)) p) (ha : 0 ≤ a ∧ a ≤ 255) {k : Nat} (hk : 20000 ≤ k) : S3 k p a = some ((true, ()), ()) := by
 unfold S3
 rw [S4_eq hk]
 simp only [Option.bind_some, Bool.not_true, cond_false]
 by_cases h : (p.length : Int) > 250
 ·rw [bif_t h]
 ·rw [bif_f h]
  unfold S5
  rw [Option.bind_some]
  simp only
  obtain ⟨v, n1, e1, hv, hp1⟩ := S6_eq k (picks_ok hp (show p.length ≤ 1000 by omega)) (show (0 : Int) < 4 by omega)
  rw [e1, Option.bind_some]
  simp only
  obtain ⟨w, n2, e2, hw, hp2⟩ := S6_eq k hp1 (show (0 : Int) < 6 by omega)
  rw [e2, Option.bind_some]
  simp only
  rw [w64 (n := w + 1) (by omega) (by omega), show w + 1 = (((w + 1).toNat : Nat) : Int) by omega]
  exact L3_9_eq hk ha (by omega) (w + 1).toNat k n2 [] (by omega) (by simp; omega) hp2 (row_iff.2 (fun n hn => by simp at hn)) ⟨by simp, fun t h => by cases h⟩
theorem topLetIn_law {e : TypeId} (p : List Int) (a : Int) (hp : Ty.fine (.sl e (.int .u8)) p) (ha : Ty.fine (.int .u8) a) : ∃ k, S3 k p a = some ((true, ()), ()) := ⟨20000, topLetIn_pure hp (wf_u8e ha) (by omega)⟩
end Go.Proofs.YteflacbgobpmcaaGreat.Ab
