import Derived.Test.YtmmagcjlfcicfaaGreatQZAbW0
import Derived.KernelRfl
/- The plain law, and what it hangs on. -/
/- How long a task takes at most: the document's answer. -/
namespace Go.Proofs.YtmmagcjlfcicfaaGreat.Ab
open Go.RowKit Tr
set_option linter.unusedSimpArgs false
set_option linter.unusedVariables false
noncomputable def cst1 (t : Tk) : Int := (costsT t).1
def per1 (t : Tk) : Int := t.2.1
theorem L172_3_eq {k : Nat} (hk : 1000 ≤ k) {l : List Tk} (hL : lightL l) {i : Nat} (hi : i < l.length) {a b x2 : Int} : ∀ (d n j : Nat) (x : List Int) (x1 : Int) (x3 : List Int), n + d = i + 1 → d < j → x.length ≤ n → x3.length ≤ n →
  L172_3 k j l (i : Int) a b x x1 x2 x3 (n : Int) = some (((x ++ ((l.take (i + 1)).drop n).map cst1, lostG x1 ((l.take (i + 1)).drop n), x2, x3 ++ ((l.take (i + 1)).drop n).map per1), ()), ())
 | 0, n, j, x, x1, x3, h, hj, h1, h3 => by
  obtain ⟨j', rfl⟩ : ∃ j', j = j' + 1 := ⟨j - 1, by omega⟩
  rw [L172_3_s, l172_3, bif_f (by omega), drop_nil (by rw [List.length_take]; omega), List.map_nil, List.map_nil, List.append_nil, List.append_nil, lostG]
 | d + 1, n, j, x, x1, x3, h, hj, h1, h3 => by
  obtain ⟨j', rfl⟩ : ∃ j', j = j' + 1 := ⟨j - 1, by omega⟩
  have hll := hL.1
  have hn : n < (l.take (i + 1)).length := by rw [List.length_take]; omega
  have hg : (l.take (i + 1)).getD n t0 = l.getD n t0 := by
   rw [List.getD_eq_getElem?_getD, List.getD_eq_getElem?_getD, List.getElem?_take, if_pos (by omega)]
  have ht := (hL.2 _ (getD_mem (z := t0) (show n < l.length by omega))).1
  have ih := L172_3_eq hk hL hi (a := a) (b := b) (x2 := x2) d (n + 1) j' (x ++ [(costsT (l.getD n t0)).1]) (mx x1 (costsT (l.getD n t0)).2.1) (x3 ++ [(l.getD n t0).2.1]) (by omega) (by omega) (by simp; omega) (by simp; omega)
  rw [L172_3_s, l172_3, bif_t (by omega), ix_nat (by omega), rd_nat, show l.getD n (0, 0, 0, [], [], []) = l.getD n t0 from rfl, S124_eq hk ht, Option.bind_some, ap_ok (by simp only [List.length_cons, List.length_nil]; omega), ix_nat (by omega), ap_ok (by simp only [List.length_cons, List.length_nil]; omega), w64_nat (by omega), drop_cons t0 hn, List.map_cons, List.map_cons, lostG, hg]
  refine Eq.trans ih ?_
  rw [List.append_assoc, List.append_assoc]; rfl
theorem S172_eq {k : Nat} (hk : 1000 ≤ k) {l : List Tk} (hL : lightL l) {i : Nat} (hi : i < l.length) : S172 k l (i : Int) = some ((((l.take (i + 1)).map cst1, lostG 0 (l.take (i + 1)), byT l (i : Int), (l.take (i + 1)).map per1), ()), ()) := by
 have := hL.1
 unfold S172
 rw [S125_eq hk hL, Option.bind_some]
 refine (L172_3_eq hk hL hi (i + 1) 0 k [] 0 [] (by omega) (by omega) (by simp) (by simp)).trans ?_
 rw [List.drop_zero, List.nil_append, List.nil_append]
theorem get_map1 {f : Tk → Int} {l : List Tk} {i n : Nat} (hn : n < i + 1) (hi : i < l.length) : ((l.take (i + 1)).map f).getD n 0 = f (l.getD n t0) := by
 rw [List.getD_eq_getElem?_getD, List.getElem?_map, List.getElem?_take, if_pos hn, List.getD_eq_getElem?_getD, List.getElem?_eq_getElem (by omega)]; rfl
theorem L173_9_eq {k : Nat} {l : List Tk} (h : RS l) {i : Nat} (hi : i < l.length) {r y1 y2 : Int} (hr : 0 ≤ r ∧ r ≤ 50000) : ∀ (d n j : Nat) (x : Int), n + d = i → d < j → 0 ≤ x → x + sumA r (((l.take i).drop n).map pc1) ≤ 100000000000 →
  L173_9 k j r ((l.take (i + 1)).map cst1) y1 y2 ((l.take (i + 1)).map per1) (i : Int) x true (n : Int) = some ((x + sumA r (((l.take i).drop n).map pc1), true, ()), ())
 | 0, n, j, x, h1, hj, hx, hb => by
  obtain ⟨j', rfl⟩ : ∃ j', j = j' + 1 := ⟨j - 1, by omega⟩
  rw [L173_9_s, l173_9, bif_f (by omega), drop_nil (by rw [List.length_take]; omega)]
  simp [sumA]
 | d + 1, n, j, x, h1, hj, hx, hb => by
  obtain ⟨j', rfl⟩ : ∃ j', j = j' + 1 := ⟨j - 1, by omega⟩
  have hll := h.len
  have hn : n < (l.take i).length := by rw [List.length_take]; omega
  have hg : (l.take i).getD n t0 = l.getD n t0 := by
   rw [List.getD_eq_getElem?_getD, List.getD_eq_getElem?_getD, List.getElem?_take, if_pos (by omega)]
  have hc := h.co _ (getD_mem (z := t0) (show n < l.length by omega))
  have hper := hc.per; have hco := hc.cost; have hen := hc.en
  have hu := up_bd hr.1 hper.1
  have hmul := Int.mul_nonneg hu.1 (show 0 ≤ (costsT (l.getD n t0)).1 by omega)
  have hrest : 0 ≤ sumA r (((l.take i).drop (n + 1)).map pc1) := sumA_nonneg hr.1 (fun y hy => by
   obtain ⟨t, ht, rfl⟩ := List.mem_map.1 hy
   have q := h.co t (List.mem_of_mem_take (List.mem_of_mem_drop ht))
   have := q.cost; have := q.per
   unfold pc1; simp only; omega)
  have hlen : ((l.take (i + 1)).map per1).length = i + 1 := by rw [List.length_map, List.length_take]; omega
  have hlen2 : ((l.take (i + 1)).map cst1).length = i + 1 := by rw [List.length_map, List.length_take]; omega
  have ih := L173_9_eq (k := k) h hi (y1 := y1) (y2 := y2) hr d (n + 1) j' (x + up r (l.getD n t0).2.1 * (costsT (l.getD n t0)).1) (by omega) (by omega) (by omega)
  rw [drop_cons t0 hn, List.map_cons, sumA, hg] at hb ⊢
  have e1 : (pc1 (l.getD n t0)).1 = (l.getD n t0).2.1 := rfl
  have e2 : (pc1 (l.getD n t0)).2 = (costsT (l.getD n t0)).1 := rfl
  rw [e1, e2] at hb ⊢
  have ih := ih (by omega)
  rw [L173_9_s, l173_9, bif_t (by omega), cond_true, ix_nat (by omega), rd_nat, get_map1 (by omega) hi, show per1 (l.getD n t0) = (l.getD n t0).2.1 from rfl, S219_eq k (by omega) hper.1, Option.bind_some, ix_nat (by omega), rd_nat, get_map1 (by omega) hi, show cst1 (l.getD n t0) = (costsT (l.getD n t0)).1 from rfl]
  simp only
  rw [S220_eq k (by omega) (by omega) (by omega), Option.bind_some]
  simp only [cond_true]
  rw [S218_eq k hx hmul (by omega), Option.bind_some, w64_nat (by omega), ← Int.add_assoc]
  exact ih
theorem S173_eq {k : Nat} (hk : 1000 ≤ k) {l : List Tk} (h : RS l) {i : Nat} (hi : i < l.length) {apart r : Int} (ha : 1 ≤ apart) (hr : 0 ≤ r ∧ r ≤ 50000) : S173 k ((l.take (i + 1)).map cst1, lostG 0 (l.take (i + 1)), byT l (i : Int), (l.take (i + 1)).map per1) apart r = some ((rightT l i apart r, true, ()), ()) := by
 have hll := h.len
 have hlen2 : ((l.take (i + 1)).map cst1).length = i + 1 := by rw [List.length_map, List.length_take]; omega
 have hb := byT_bd h.co (i : Int)
 have hc := h.co _ (getD_mem (z := t0) hi)
 have hper := hc.per; have hco := hc.cost; have hen := hc.en
 have hls := h.lost (i + 1)
 have hlo := h.loss (i := i) ha hr
 have hsu := h.sum (i := i) hr
 have hu := up_bd hr.1 ha
 have hfi := h.first hi
 unfold S173
 simp only
 rw [hlen2, w64 (n := ((i + 1 : Nat) : Int) - 1) (by omega) (by omega), show ((i + 1 : Nat) : Int) - 1 = (i : Int) by omega, ix_nat (by omega), rd_nat, get_map1 (by omega) hi, show cst1 (l.getD i t0) = (costsT (l.getD i t0)).1 from rfl, S218_eq k (by omega) (by omega) (by omega), Option.bind_some, S219_eq k (by omega) ha, Option.bind_some]
 simp only
 rw [S220_eq k (by omega) (by omega) (by omega), Option.bind_some]
 simp only [cond_true]
 unfold j173_6
 rw [cond_true, show (costsT (l.getD i t0)).1 + byT l (i : Int) = firstT l i from rfl, S218_eq k (by omega) (by omega) (by omega), Option.bind_some]
 refine (L173_9_eq h hi hr i 0 k (firstT l i + up r apart * lostG 0 (l.take (i + 1))) (by omega) (by omega) (by omega) (by rw [List.drop_zero]; omega)).trans ?_
 rw [List.drop_zero]; rfl
theorem L123_7_eq {k : Nat} (hk : 1000 ≤ k) {l : List Tk} (h : RS l) {i : Nat} (hi : i < l.length) {apart : Int} (ha : 1 ≤ apart) : ∀ (f j : Nat) (r n : Int) (y : Int × Int × Int), f ≤ j → 0 ≤ r → r ≤ 50000 → 1 ≤ n → n + f ≤ 1000000 → respG (l.getD i t0).2.2.1 (rightT l i apart) f r n = some y →
  L123_7 k j l (i : Int) apart ((l.take (i + 1)).map cst1) (lostG 0 (l.take (i + 1))) (byT l (i : Int)) ((l.take (i + 1)).map per1) r n = some ((y.1, y.2.1, y.2.2, ()), ())
 | 0, j, r, n, y, _, _, _, _, _, e => by cases e
 | f + 1, j, r, n, y, hj, h0, h1, hn, hf, e => by
  obtain ⟨j', rfl⟩ : ∃ j', j = j' + 1 := ⟨j - 1, by omega⟩
  have hen := (h.co _ (getD_mem (z := t0) hi)).en
  have hper := (h.co _ (getD_mem (z := t0) hi)).per
  have hfi := h.first hi
  rw [L123_7_s, l123_7, S173_eq hk h hi ha ⟨h0, h1⟩, Option.bind_some]
  simp only [Bool.not_true, cond_false]
  rw [ix_nat hi, rd_nat, show l.getD i (0, 0, 0, [], [], []) = l.getD i t0 from rfl]
  rw [respG] at e
  split at e
  ·rename_i q
   injection e with e; subst e
   rw [bif_t q]
  ·rename_i q
   rw [bif_f q]
   split at e
   ·rename_i q2
    injection e with e; subst e
    rw [q2, beq_self_eq_true, cond_true]
   ·rename_i q2
    have hr := h.right hi ha ⟨h0, h1⟩
    rw [show (rightT l i apart r == r) = false by rw [beq_eq_false_iff_ne]; exact q2, cond_false, w64 (n := n + 1) (by omega) (by omega)]
    exact L123_7_eq hk h hi ha f j' (rightT l i apart r) (n + 1) y (by omega) (by omega) (by omega) (by omega) (by omega) e
theorem S123_eq {k : Nat} (hk : 20000 ≤ k) {l : List Tk} (hL : lightL l) (hl : l.length ≤ 10) (i apart : Int) : S123 k l i apart = some (((respT l i apart).1, (respT l i apart).2.1, (respT l i apart).2.2, ()), ()) := by
 unfold S123
 rw [S122_eq (by omega) hL, Option.bind_some]
 simp only
 cases hr : rowT l with
 | false =>
  have : respT l i apart = (0, 0, 1) := by unfold respT; rw [if_neg (fun q => by rw [hr] at q; cases q.1)]
  rw [this]; rfl
 | true =>
  rw [Bool.not_true, cond_false]
  by_cases h1 : i < 0
  ·have : respT l i apart = (0, 0, 1) := by unfold respT; rw [if_neg (fun q => by omega)]
   rw [bif_t h1, this]
  ·rw [bif_f h1]
   by_cases h2 : i ≥ (l.length : Int)
   ·have : respT l i apart = (0, 0, 1) := by unfold respT; rw [if_neg (fun q => by omega)]
    rw [bif_t h2, this]
   ·rw [bif_f h2]
    by_cases h3 : apart < 1
    ·have : respT l i apart = (0, 0, 1) := by unfold respT; rw [if_neg (fun q => by omega)]
     rw [bif_t h3, this]
    ·rw [bif_f h3]
     obtain ⟨n, rfl⟩ : ∃ n : Nat, i = (n : Int) := ⟨i.toNat, by omega⟩
     have hn : n < l.length := by omega
     have hRS := row_rs hr hL hl
     have hfi := hRS.first hn
     have hlen2 : ((l.take (n + 1)).map cst1).length = n + 1 := by rw [List.length_map, List.length_take]; omega
     obtain ⟨y, hy⟩ := resp_some hRS hn (show 1 ≤ apart by omega)
     rw [S172_eq (by omega) hL hn, Option.bind_some]
     simp only
     rw [ix_nat (by omega), rd_nat, get_map1 (by omega) hn, show cst1 (l.getD n t0) + byT l (n : Int) = firstT l n from rfl, w64 (n := firstT l n) (by omega) (by omega), respT_at hr hn (by omega) hy]
     exact L123_7_eq (by omega) hRS hn (by omega) 20000 k _ 1 y (by omega) (by omega) (by omega) (by omega) (by omega) hy
end Go.Proofs.YtmmagcjlfcicfaaGreat.Ab

/- Both answers are one: the law of all rows. -/
namespace Go.Proofs.YtmmagcjlfcicfaaGreat.Ab
open Go.RowKit Tr
set_option linter.unusedSimpArgs false
set_option linter.unusedVariables false
end Go.Proofs.YtmmagcjlfcicfaaGreat.Ab

/- What the rounds come to: the least that is so, or nothing up to the end. -/
namespace Go.Proofs.YtmmagcjlfcicfaaGreat.Ab
open Go.RowKit Tr
set_option linter.unusedSimpArgs false
set_option linter.unusedVariables false
theorem respG_spec {en : Int} {right : Int → Int} (hm : ∀ a b, 0 ≤ a → a ≤ b → right a ≤ right b) : ∀ (f : Nat) (r n : Int) (y : Int × Int × Int), 0 ≤ r → r ≤ right r → r ≤ en ∨ right r > en → respG en right f r n = some y →
  (y = (0, 0, 14) ∧ ∀ x, r ≤ x → x ≤ en → right x ≠ x) ∨ (y.2.2 = 0 ∧ right y.1 = y.1 ∧ r ≤ y.1 ∧ y.1 ≤ en ∧ n ≤ y.2.1 ∧ y.2.1 - n ≤ y.1 - r ∧ (right r ≠ r → n + 1 ≤ y.2.1) ∧ ∀ x, r ≤ x → right x = x → y.1 ≤ x)
 | 0, r, n, y, _, _, _, e => by cases e
 | f + 1, r, n, y, h0, h1, h2, e => by
  rw [respG] at e
  split at e
  ·rename_i q
   injection e with e; subst e
   refine .inl ⟨rfl, fun x hx hxe hf => ?_⟩
   have := hm r x h0 hx
   omega
  ·rename_i q
   split at e
   ·rename_i q2
    injection e with e; subst e
    refine .inr ⟨rfl, q2, Int.le_refl _, by omega, Int.le_refl _, by simp only; omega, fun h => absurd q2 h, fun x hx _ => hx⟩
   ·rename_i q2
    have hr := hm r (right r) h0 h1
    rcases respG_spec hm f (right r) (n + 1) y (by omega) hr (.inl (by omega)) e with ⟨a, b⟩ | ⟨a1, a2, a3, a4, a5, a6, a7, a8⟩
    ·refine .inl ⟨a, fun x hx hxe hf => ?_⟩
     have := hm r x h0 hx
     exact b x (by omega) hxe hf
    ·refine .inr ⟨a1, a2, by omega, a4, by omega, by omega, fun _ => by omega, fun x hx hf => ?_⟩
     have := hm r x h0 hx
     exact a8 x (by omega) hf
theorem RowOK.row {locks : Int} {l : List Tk} (h : RowOK locks l) : rowT l = true := by
 unfold rowT
 rw [Bool.not_eq_true', anyF_none]
 intro n _ hn
 unfold badR
 rw [h.may n (by omega), bne_self_eq_false, Bool.false_or, Bool.and_eq_false_iff]
 by_cases h0 : (n : Int) > 0
 ·right
  obtain ⟨r, m1, m2, m3⟩ := h.mt n (by omega)
  obtain ⟨r2, p1, p2, p3⟩ := h.mt (n - 1) (by omega)
  have e1 := m1.rank
  have e2 := p1.rank
  exact decide_eq_false (by rw [e1, e2]; omega)
 ·left; exact decide_eq_false h0
end Go.Proofs.YtmmagcjlfcicfaaGreat.Ab

/- What is told is no less than cost, what holds up, one loss, one go of each ahead. -/
namespace Go.Proofs.YtmmagcjlfcicfaaGreat.Ab
open Go.RowKit Tr
set_option linter.unusedSimpArgs false
set_option linter.unusedVariables false
theorem up_pos {r v : Int} (hr : 1 ≤ r) (hv : 1 ≤ v) : 1 ≤ up r v := by
 unfold up
 rw [Int.le_ediv_iff_mul_le (by omega)]; omega
theorem take_snoc {l : List Tk} {i : Nat} (hi : i < l.length) : l.take (i + 1) = l.take i ++ [l.getD i t0] := by
 rw [List.take_add_one, List.getElem?_eq_getElem hi, List.getD_eq_getElem?_getD, List.getElem?_eq_getElem hi]; rfl
end Go.Proofs.YtmmagcjlfcicfaaGreat.Ab

/- The law of what makes it no longer. -/
namespace Go.Proofs.YtmmagcjlfcicfaaGreat.Ab
open Go.RowKit Tr
set_option linter.unusedSimpArgs false
set_option linter.unusedVariables false
theorem respG_below {en z : Int} {right : Int → Int} (hm : ∀ a b, 0 ≤ a → a ≤ b → right a ≤ right b) (h2 : right z ≤ z) (h3 : z ≤ en) : ∀ (f : Nat) (r n : Int) (y : Int × Int × Int), 0 ≤ r → r ≤ z → r ≤ right r → respG en right f r n = some y → y.2.2 = 0 ∧ y.1 ≤ z
 | 0, r, n, y, _, _, _, e => by cases e
 | f + 1, r, n, y, h0, h1, hr, e => by
  have := hm r z h0 h1
  rw [respG, if_neg (by omega)] at e
  split at e
  ·injection e with e; subst e; exact ⟨rfl, h1⟩
  ·exact respG_below hm h2 h3 f (right r) (n + 1) y (by omega) (by omega) (hm r _ h0 hr) e
theorem respT_below {l : List Tk} (hr : rowT l = true) (h : RS l) {i : Nat} (hi : i < l.length) {apart z : Int} (ha : 1 ≤ apart) (h1 : firstT l i ≤ z) (h2 : rightT l i apart z ≤ z) (h3 : z ≤ (l.getD i t0).2.2.1) : (respT l (i : Int) apart).2.2 = 0 ∧ (respT l (i : Int) apart).1 ≤ z := by
 obtain ⟨y, hy⟩ := resp_some h hi ha
 have hf := h.first hi
 rw [respT_at hr hi ha hy]
 exact respG_below (right_mono h ha) h2 h3 _ _ _ _ (by omega) h1 (h.right hi ha (by omega)).1 hy
theorem row_iff {l : List Tk} : rowT l = true ↔ ∀ n, n < l.length → mayT (l.getD n t0) = 0 ∧ (0 < n → (l.getD (n - 1) t0).1 < (l.getD n t0).1) := by
 unfold rowT
 rw [Bool.not_eq_true', anyF_none]
 constructor
 ·intro h n hn
  have := h n (by omega) (by omega)
  unfold badR at this
  rw [Bool.or_eq_false_iff, Bool.and_eq_false_iff] at this
  refine ⟨by simpa using this.1, fun h0 => ?_⟩
  rcases this.2 with q | q
  ·exact absurd (of_decide_eq_false q) (by omega)
  ·have := of_decide_eq_false q; omega
 ·intro h n _ hn
  obtain ⟨a, b⟩ := h n (by omega)
  unfold badR
  rw [a, bne_self_eq_false, Bool.false_or, Bool.and_eq_false_iff]
  by_cases h0 : 0 < n
  ·right; exact decide_eq_false (by have := b h0; omega)
  ·left; exact decide_eq_false (by omega)
def longer (t : Tk) : Tk := (t.1, t.2.1 * 2, t.2.2)
theorem wf_u8e {n : Int} (h : (Lit.int .u8 n).wf = true) : 0 ≤ n ∧ n ≤ 255 := by
 simp [Lit.wf, IntKind.min, IntKind.max, IntKind.signed, IntKind.bits] at h
 omega
end Go.Proofs.YtmmagcjlfcicfaaGreat.Ab

/- Who may come in: the program's answer. -/
namespace Go.Proofs.YtmmagcjlfcicfaaGreat.Ab
open Go.RowKit Tr
set_option linter.unusedSimpArgs false
set_option linter.unusedVariables false
abbrev Bd5 : Type := PN Int 5
noncomputable def bT (l : List Tk) (ap : Int) (i : Nat) : Bd5 := ((costsT (l.getD i t0)).1, (costsT (l.getD i t0)).2.1, byT l (i : Int), (respT l (i : Int) ap).1, (l.getD i t0).2.2.1 - (respT l (i : Int) ap).1)
noncomputable def allG (l : List Tk) (ap : Int) : Nat → Nat → List Bd5 → List Bd5 × Int
 | 0, _, out => (out, 0)
 | d + 1, i, out => if (respT l (i : Int) ap).2.2 = 0 then allG l ap d (i + 1) (out ++ [bT l ap i]) else ([], (respT l (i : Int) ap).2.2)
noncomputable def allT (l : List Tk) (ap : Int) : List Bd5 × Int := if ap < 1 then ([], 1) else allG l ap l.length 0 []
theorem respT_ok {l : List Tk} (hL : lightL l) (hl : l.length ≤ 10) {i : Nat} {ap : Int} (h : (respT l (i : Int) ap).2.2 = 0) : rowT l = true ∧ i < l.length ∧ 1 ≤ ap ∧ 1 ≤ (respT l (i : Int) ap).1 ∧ firstT l i ≤ (respT l (i : Int) ap).1 ∧ (respT l (i : Int) ap).1 ≤ (l.getD i t0).2.2.1 ∧ rightT l i ap (respT l (i : Int) ap).1 = (respT l (i : Int) ap).1 := by
 by_cases hc : rowT l = true ∧ 0 ≤ (i : Int) ∧ (i : Int) < (l.length : Int) ∧ 1 ≤ ap
 ·obtain ⟨h1, _, h3, h4⟩ := hc
  have hi : i < l.length := by omega
  have hR := row_rs h1 hL hl
  obtain ⟨y, hy⟩ := resp_some hR hi h4
  have hf := hR.first hi
  rw [respT_at h1 hi h4 hy] at h ⊢
  rcases respG_spec (right_mono hR h4) 20000 (firstT l i) 1 y (by omega) (hR.right hi h4 (by omega)).1 (by have := (hR.right hi h4 (r := firstT l i) (by omega)).1; omega) hy with ⟨e, _⟩ | ⟨a1, a2, a3, a4, _⟩
  ·rw [e] at h; exact absurd h (by decide)
  ·exact ⟨h1, hi, h4, by omega, a3, a4, a2⟩
 ·unfold respT at h
  rw [if_neg hc] at h
  exact absurd h (by decide)
theorem L69_5_eq {k : Nat} (hk : 20000 ≤ k) {l : List Tk} (hL : lightL l) (hl : l.length ≤ 10) {ap : Int} : ∀ (d i j : Nat) (out : List Bd5), i + d = l.length → d < j → out.length ≤ i →
  L69_5 k j l ap out (i : Int) = some (((allG l ap d i out).1, (allG l ap d i out).2, ()), ())
 | 0, i, j, out, h, hj, ho => by
  obtain ⟨j', rfl⟩ : ∃ j', j = j' + 1 := ⟨j - 1, by omega⟩
  rw [L69_5_s, l69_5, bif_f (by omega), allG]
 | d + 1, i, j, out, h, hj, ho => by
  obtain ⟨j', rfl⟩ : ∃ j', j = j' + 1 := ⟨j - 1, by omega⟩
  have hi : i < l.length := by omega
  have ht := (hL.2 _ (getD_mem (z := t0) hi)).1
  rw [L69_5_s, l69_5, bif_t (by omega), S123_eq hk hL hl, Option.bind_some, allG]
  simp only
  by_cases he : (respT l (i : Int) ap).2.2 = 0
  ·obtain ⟨h1, _, h3, h4, h5, h6, h7⟩ := respT_ok hL hl he
   have hc := (row_rs h1 hL hl).co _ (getD_mem (z := t0) hi)
   have := hc.en; have := hc.per
   rw [if_pos he, he]
   simp only [bne_self_eq_false, cond_false]
   rw [ix_nat hi, rd_nat, show l.getD i (0, 0, 0, [], [], []) = l.getD i t0 from rfl, S124_eq (by omega) ht, Option.bind_some, S125_eq (by omega) hL, Option.bind_some, ix_nat hi, ap_ok (by simp only [List.length_cons, List.length_nil]; omega), w64_nat (by omega), w64 (by omega) (by omega)]
   exact L69_5_eq hk hL hl d (i + 1) j' _ (by omega) (by omega) (by simp only [List.length_append, List.length_cons, List.length_nil]; omega)
  ·rw [if_neg he, show ((respT l (i : Int) ap).2.2 != 0) = true by rw [bne_iff_ne]; exact he, cond_true]
theorem S69_eq {k : Nat} (hk : 20000 ≤ k) {l : List Tk} (hL : lightL l) (hl : l.length ≤ 10) (ap : Int) : S69 k l ap = some (((allT l ap).1, (allT l ap).2, ()), ()) := by
 unfold S69 allT
 rw [S122_eq (by omega) hL, Option.bind_some]
 simp only
 cases hr : rowT l with
 | false =>
  rw [Bool.not_false, cond_true]
  by_cases h : ap < 1
  ·rw [if_pos h]
  ·rw [if_neg h]
   cases l with
   | nil => exact absurd hr (by unfold rowT; decide)
   | cons t r =>
    have : respT (t :: r) ((0 : Nat) : Int) ap = (0, 0, 1) := by unfold respT; rw [if_neg (fun q => by rw [hr] at q; cases q.1)]
    rw [List.length_cons, allG, this, if_neg (by decide)]
 | true =>
  rw [Bool.not_true, cond_false]
  by_cases h : ap < 1
  ·rw [bif_t h, if_pos h]
  ·rw [bif_f h, if_neg h]
   exact L69_5_eq hk hL hl l.length 0 k [] (by omega) (by omega) (by simp)
def posT (r : Int) : List Tk → Nat
 | [] => 0
 | x :: l => bif decide (x.1 < r) then posT r l + 1 else 0
theorem posT_le (r : Int) : ∀ l : List Tk, posT r l ≤ l.length
 | [] => Nat.le_refl _
 | x :: l => by
  rw [posT]
  cases decide (x.1 < r) with
  | true => rw [cond_true, List.length_cons]; have := posT_le r l; omega
  | false => rw [cond_false]; omega
theorem posT_unique (r : Int) : ∀ (l : List Tk) (n : Nat), n ≤ l.length → (∀ a, a < n → (l.getD a t0).1 < r) → (n < l.length → ¬ (l.getD n t0).1 < r) → posT r l = n
 | [], n, h, _, _ => by simp at h; rw [h]; rfl
 | x :: l, 0, _, _, h2 => by
  have h3 : ¬ x.1 < r := h2 (by simp)
  rw [posT, decide_eq_false h3, cond_false]
 | x :: l, n + 1, h, h1, h2 => by
  have h3 : x.1 < r := h1 0 (by omega)
  rw [posT, decide_eq_true h3, cond_true, posT_unique r l n (by simpa using h) (fun a ha => h1 (a + 1) (by omega)) (fun hn => h2 (by simpa using hn))]
noncomputable def putT (l : List Tk) (t : Tk) : List Tk := l.take (posT t.1 l) ++ [t] ++ l.drop (posT t.1 l)
theorem putT_len (l : List Tk) (t : Tk) : (putT l t).length = l.length + 1 := by
 have := posT_le t.1 l
 unfold putT
 simp only [List.length_append, List.length_take, List.length_drop, List.length_cons, List.length_nil]; omega
theorem putT_light {l : List Tk} {t : Tk} (h : lightL l) (hl : l.length ≤ 50) (ht : lightT t ∧ (t.2.2.2.1 ++ t.2.2.2.2.1).length ≤ 900) : lightL (putT l t) := ⟨by rw [putT_len]; omega, fun x hx => by
 unfold putT at hx
 simp only [List.mem_append, List.mem_singleton] at hx
 rcases hx with (hx | hx) | hx
 ·exact h.2 x (List.mem_of_mem_take hx)
 ·rw [hx]; exact ht
 ·exact h.2 x (List.mem_of_mem_drop hx)⟩
noncomputable def inT (l : List Tk) (t : Tk) (ap : Int) : List Tk × List Bd5 × Int :=
 if mayT t ≠ 0 then ([], [], mayT t) else if l.any (fun x => x.1 == t.1) = true then ([], [], 11) else if 8 ≤ l.length then ([], [], 4)
 else if (allT (putT l t) ap).2 ≠ 0 then ([], [], (allT (putT l t) ap).2) else (putT l t, (allT (putT l t) ap).1, 0)
end Go.Proofs.YtmmagcjlfcicfaaGreat.Ab

/- Who may come in: both answers. -/
namespace Go.Proofs.YtmmagcjlfcicfaaGreat.Ab
open Go.RowKit Tr
set_option linter.unusedSimpArgs false
set_option linter.unusedVariables false
structure OKin (l : List Tk) (t : Tk) : Prop where
 light : lightL l
 len : l.length ≤ 9
 one : lightT t ∧ (t.2.2.2.1 ++ t.2.2.2.2.1).length ≤ 900
def risesL (l : List Tk) : Prop := ∀ a b, a < b → b < l.length → (l.getD a t0).1 < (l.getD b t0).1
theorem row_rises {l : List Tk} (h : rowT l = true) : risesL l := fun a b hab hb => by
 rw [row_iff] at h
 induction b with
 | zero => omega
 | succ b ih =>
  have h1 := (h (b + 1) hb).2 (by omega)
  rw [show b + 1 - 1 = b by omega] at h1
  by_cases e : a = b
  ·rw [e]; exact h1
  ·have := ih (by omega) (by omega); omega
theorem L28_6_eq {k : Nat} (hk : 20000 ≤ k) {l : List Tk} {t : Tk} (h : OKin l t) (hr : risesL l) {ap : Int} : ∀ (d n p j : Nat), n + d = l.length → d < j → p ≤ n → (l.take n).any (fun x => x.1 == t.1) = false → (∀ a, a < p → (l.getD a t0).1 < t.1) → (∀ a, p ≤ a → a < n → ¬ (l.getD a t0).1 < t.1) →
  L28_6 k j l ap t.1 t.2.1 t.2.2.1 t.2.2.2.1 t.2.2.2.2.1 t.2.2.2.2.2 (p : Int) (n : Int) = some ((if l.any (fun x => x.1 == t.1) = true then ([], [], 11, ()) else if 8 ≤ l.length then ([], [], 4, ()) else if (allT (putT l t) ap).2 ≠ 0 then ([], [], (allT (putT l t) ap).2, ()) else (putT l t, (allT (putT l t) ap).1, 0, ())), ())
 | 0, n, p, j, h1, hj, hp, ha, q1, q2 => by
  obtain ⟨j', rfl⟩ : ∃ j', j = j' + 1 := ⟨j - 1, by omega⟩
  have hl := h.len
  have hn : n = l.length := by omega
  subst hn
  rw [List.take_length] at ha
  have hpos := posT_unique t.1 l p hp q1 (fun hh => q2 p (Nat.le_refl _) hh)
  have hpl := putT_light h.light (by omega) h.one
  have hpn := putT_len l t
  rw [L28_6_s, l28_6, bif_f (by omega), ha, if_neg (by simp)]
  by_cases h8 : 8 ≤ l.length
  ·rw [if_pos h8, bif_t (by omega)]
  ·rw [if_neg h8, bif_f (by omega), sx_ok (by omega) (by omega) (by omega), ap_ok (by simp only [List.length_nil, sub, List.length_drop, List.length_take]; omega), ap_ok (by simp only [List.length_append, List.length_cons, List.length_nil, sub, List.length_drop, List.length_take]; omega), sx_ok (by omega) (by omega) (by omega), ap_ok (by simp only [List.length_append, List.length_cons, List.length_nil, sub, List.length_drop, List.length_take]; omega)]
   rw [show [] ++ sub l 0 (p : Int) ++ [(t.1, t.2.1, t.2.2.1, t.2.2.2.1, t.2.2.2.2.1, t.2.2.2.2.2)] ++ sub l (p : Int) (l.length : Int) = putT l t by
    unfold putT; rw [hpos]; simp [sub], S69_eq hk hpl (by omega), Option.bind_some]
   simp only
   by_cases he : (allT (putT l t) ap).2 = 0
   ·rw [he, if_neg (by simp)]; rfl
   ·rw [if_pos he, show ((allT (putT l t) ap).2 != 0) = true by rw [bne_iff_ne]; exact he, cond_true]
 | d + 1, n, p, j, h1, hj, hp, ha, q1, q2 => by
  obtain ⟨j', rfl⟩ : ∃ j', j = j' + 1 := ⟨j - 1, by omega⟩
  have hl := h.len
  have hn : n < l.length := by omega
  rw [L28_6_s, l28_6, bif_t (by omega), ix_nat hn, rd_nat, show l.getD n (0, 0, 0, [], [], []) = l.getD n t0 from rfl, w64_nat (by omega)]
  cases he : (l.getD n t0).1 == t.1 with
  | true =>
   have : l.any (fun x => x.1 == t.1) = true := List.any_eq_true.2 ⟨_, getD_mem (z := t0) hn, he⟩
   rw [this, if_pos rfl, cond_true]
  | false =>
   have ha2 : (l.take (n + 1)).any (fun x => x.1 == t.1) = false := by rw [take_snoc hn, List.any_append, ha, List.any_cons, he]; rfl
   rw [cond_false, ix_nat hn]
   by_cases hlt : (l.getD n t0).1 < t.1
   ·rw [bif_t hlt]
    exact L28_6_eq hk h hr d (n + 1) (n + 1) j' (by omega) (by omega) (Nat.le_refl _) ha2 (fun a ha => by
     by_cases e : a = n
     ·rw [e]; exact hlt
     ·have := hr a n (by omega) hn; omega) (fun a h2 h3 => by omega)
   ·rw [bif_f hlt]
    exact L28_6_eq hk h hr d (n + 1) p j' (by omega) (by omega) (by omega) ha2 q1 (fun a h2 h3 => by
     by_cases e : a = n
     ·rw [e]; exact hlt
     ·exact q2 a h2 (by omega))
theorem S28_eq {k : Nat} (hk : 20000 ≤ k) {l : List Tk} {t : Tk} (h : OKin l t) (hr : risesL l) (ap : Int) : S28 k l t ap = some (((inT l t ap).1, (inT l t ap).2.1, (inT l t ap).2.2, ()), ()) := by
 have hl := h.len
 unfold S28 inT
 rw [S68_eq (by omega) h.one.1, Option.bind_some]
 simp only
 by_cases hz : mayT t = 0
 ·rw [if_neg (by omega), hz]
  simp only [bne_self_eq_false, cond_false]
  refine (L28_6_eq hk h hr (ap := ap) l.length 0 0 k (by omega) (by omega) (Nat.le_refl _) (by simp) (fun a ha => by omega) (fun a h1 h2 => by omega)).trans ?_
  split
  ·rfl
  ·split
   ·rfl
   ·split <;> rfl
 ·rw [if_pos hz, show (mayT t != 0) = true by rw [bne_iff_ne]; exact hz, cond_true]
end Go.Proofs.YtmmagcjlfcicfaaGreat.Ab

/- A kernel without things: a kernel of its own is the same. -/
namespace Go.Proofs.YtmmagcjlfcicfaaGreat.Ab
open Go.RowKit
set_option linter.unusedSimpArgs false
set_option linter.unusedVariables false
abbrev Jb : Type := Int × Int × Int × Int × Mc × Mc × List Int × Bool
abbrev Thg : Type := Int × (Int × Int) × (Int × Int) × ((List Int) × List Int) × (Int × List (Int × Int)) × Int
abbrev TabK : Type := (List Int × List Bool) × List Thg
abbrev Kn : Type := Int × Int × List Tk × List Bd5 × Bool × Bool × Bool × List Jb × TabK × List Int × List Bool
abbrev m0 : Mc := (0, prep (α := Int) 8 0, [], false)
abbrev j0 : Jb := (0, 0, 0, 0, m0, m0, [], false)
abbrev TK0 : TabK := ((List.replicate 12 0, List.replicate 12 false), List.replicate 12 (0, (0, 0), (0, 0), ([], []), (0, []), 0))
structure JOK (j : Jb) : Prop where
 held : j.2.2.2.2.2.2.1 = []
 m : j.2.2.2.2.1.2.2.1.length ≤ 100
 kept : j.2.2.2.2.2.1.2.2.1.length ≤ 100
theorem cl_inst {k : Nat} {xs : List I4} (h : xs.length ≤ 900) : S80 k xs = some ((xs, ()), ()) := by
 unfold S80
 exact clone_eq (by omega)
theorem cl_task {k : Nat} {xs : List Tk} (h : xs.length ≤ 900) : S77 k xs = some ((xs, ()), ()) := by
 unfold S77
 exact clone_eq (by omega)
theorem cl_bounds {k : Nat} {xs : List Bd5} (h : xs.length ≤ 900) : S78 k xs = some ((xs, ()), ()) := by
 unfold S78
 exact clone_eq (by omega)
theorem cl_job {k : Nat} {xs : List Jb} (h : xs.length ≤ 900) : S79 k xs = some ((xs, ()), ()) := by
 unfold S79
 exact clone_eq (by omega)
theorem cl_rep {k : Nat} {xs : List Rp} (h : xs.length ≤ 900) : S138 k xs = some ((xs, ()), ()) := by
 unfold S138
 exact clone_eq (by omega)
theorem cl_int {k : Nat} {xs : List Int} (h : xs.length ≤ 900) : S140 k xs = some ((xs, ()), ()) := by
 unfold S140
 exact clone_eq (by omega)
theorem cl_bool {k : Nat} {xs : List Bool} (h : xs.length ≤ 900) : S187 k xs = some ((xs, ()), ()) := by
 unfold S187
 exact clone_eq (by omega)
theorem delF_nil {k : Nat} (hk : 1000 ≤ k) (s : Int) : S139 k [] s = some (([], ()), ()) := by
 obtain ⟨k, rfl⟩ : ∃ m, k = m + 1 := ⟨k - 1, by omega⟩
 unfold S139 S186
 rw [L186_2_s, l186_2, bif_f (by simp), Option.bind_some]
 rfl
theorem S81_eq {k : Nat} (hk : 1000 ≤ k) {j : Jb} (h : JOK j) (s : Int) : S81 k j s = some ((j, ()), ()) := by
 obtain ⟨t, a, i, p, m, kp, hd, up⟩ := j
 have h1 : hd = [] := h.held
 have h2 : m.2.2.1.length ≤ 100 := h.m
 have h3 : kp.2.2.1.length ≤ 100 := h.kept
 subst h1
 unfold S81
 simp only
 rw [cl_rep (by omega), Option.bind_some, cl_rep (by omega), Option.bind_some, cl_int (by simp), Option.bind_some]
 simp only
 rw [delF_nil hk, Option.bind_some]
theorem put_TK0 {k : Nat} (hk : 1000 ≤ k) (x : Thg) : S82 k TK0 (-1) x = some ((TK0, ()), ()) := by
 obtain ⟨k, rfl⟩ : ∃ m, k = m + 1000 := ⟨k - 1000, by omega⟩
 kernel_rfl
theorem good_none {k : Nat} {r : List Int} {o : List Bool} (h1 : r.length ≤ 900) (h2 : o.length ≤ 900) : S83 k (r, o) (-1) = some (((r, o), ()), ()) := by
 unfold S83 S147
 simp only
 rw [cl_int h1, Option.bind_some, cl_bool h2, Option.bind_some, Option.bind_some]
 rfl
theorem set_same {α : Type} {l : List α} {n : Nat} {z : α} : l.set n (l.getD n z) = l := by
 by_cases h : n < l.length
 ·rw [getD_in h]; exact List.set_getElem_self h
 ·exact List.set_eq_of_length_le (by omega)
theorem L34_8_eq {k : Nat} (hk : 1000 ≤ k) {now ap : Int} {ts : List Tk} {bs : List Bd5} {ru ha hi : Bool} {js : List Jb} {rows : List Int} {off : List Bool} {x1 x2 : Int} {x3 x4 x5 : Bool} (hr : rows.length ≤ 900) (ho : off.length ≤ 900) (hjl : js.length ≤ 900) (hj : ∀ j ∈ js, JOK j) : ∀ (d i j : Nat), i + d = js.length → d < j →
  L34_8 k j now ap ts bs ru ha hi js TK0.1.1 TK0.1.2 TK0.2 rows off x1 x2 x3 x4 x5 (js.length : Int) (i : Int) = some (((now, ap, ts, bs, ru, ha, hi, js, TK0, rows, off), ()), ())
 | 0, i, j, h, hjj => by
  obtain ⟨j', rfl⟩ : ∃ j', j = j' + 1 := ⟨j - 1, by omega⟩
  rw [L34_8_s, l34_8, bif_f (by omega), put_TK0 hk, Option.bind_some, good_none hr ho, Option.bind_some]
 | d + 1, i, j, h, hjj => by
  obtain ⟨j', rfl⟩ : ∃ j', j = j' + 1 := ⟨j - 1, by omega⟩
  have hi' : i < js.length := by omega
  rw [L34_8_s, l34_8, bif_t (by omega), ix_nat hi', rd_nat, S81_eq hk (hj _ (getD_mem hi')), Option.bind_some, ix_nat hi', upd_nat, w64_nat (by omega)]
  simp only
  rw [set_same]
  exact L34_8_eq hk hr ho hjl hj d (i + 1) j' (by omega) (by omega)
theorem L34_3_eq {k : Nat} (hk : 1000 ≤ k) {now ap : Int} {ts : List Tk} {bs : List Bd5} {ru ha hi : Bool} {js : List Jb} {rows : List Int} {off : List Bool} {x1 x2 : Int} {x3 x4 x5 : Bool} (hr : rows.length ≤ 900) (ho : off.length ≤ 900) (hjl : js.length ≤ 900) (hj : ∀ j ∈ js, JOK j) (ht : lightL ts) : ∀ (d i j : Nat), i + d = ts.length → d < j →
  L34_3 k j now ap ts bs ru ha hi js TK0.1.1 TK0.1.2 TK0.2 rows off x1 x2 x3 x4 x5 (ts.length : Int) (i : Int) = some (((now, ap, ts, bs, ru, ha, hi, js, TK0, rows, off), ()), ())
 | 0, i, j, h, hjj => by
  obtain ⟨j', rfl⟩ : ∃ j', j = j' + 1 := ⟨j - 1, by omega⟩
  rw [L34_3_s, l34_3, bif_f (by omega)]
  exact L34_8_eq hk hr ho hjl hj js.length 0 k (by omega) (by omega)
 | d + 1, i, j, h, hjj => by
  obtain ⟨j', rfl⟩ : ∃ j', j = j' + 1 := ⟨j - 1, by omega⟩
  have hi' : i < ts.length := by omega
  have hl := (ht.2 _ (getD_mem (z := t0) hi')).1
  rw [L34_3_s, l34_3, bif_t (by omega), ix_nat hi', rd_nat, cl_inst hl.1, Option.bind_some, cl_inst hl.2.1, Option.bind_some, cl_inst hl.2.2, Option.bind_some, ix_nat hi', upd_nat]
  rw [show (ts.set i (ts.getD i (0, 0, 0, [], [], []))) = ts from set_same, ix_nat hi', rd_nat, upd_nat]
  simp only
  rw [show (ts.set i (ts.getD i (0, 0, 0, [], [], []))) = ts from set_same, ix_nat hi', rd_nat, upd_nat, show (ts.set i (ts.getD i (0, 0, 0, [], [], []))) = ts from set_same, w64_nat (by have := ht.1; omega)]
  exact L34_3_eq hk hr ho hjl hj ht d (i + 1) j' (by omega) (by omega)
structure KOK (K : Kn) : Prop where
 tab : K.2.2.2.2.2.2.2.2.1 = TK0
 tasks : lightL K.2.2.1
 bounds : K.2.2.2.1.length ≤ 900
 jobs : K.2.2.2.2.2.2.2.1.length ≤ 800
 job : ∀ j ∈ K.2.2.2.2.2.2.2.1, JOK j
 rows : K.2.2.2.2.2.2.2.2.2.1.length ≤ 900
 off : K.2.2.2.2.2.2.2.2.2.2.length ≤ 900
theorem S34_eq {k : Nat} (hk : 1000 ≤ k) {K : Kn} (h : KOK K) : S34 k K = some ((K, ()), ()) := by
 obtain ⟨now, ap, ts, bs, ru, ha, hi, js, T, rows, off⟩ := K
 have e : T = TK0 := h.tab
 subst e
 unfold S34
 simp only
 have h1 : ts.length ≤ 100 := h.tasks.1
 have h2 : js.length ≤ 800 := h.jobs
 rw [cl_task (by omega), Option.bind_some, cl_bounds h.bounds, Option.bind_some, cl_job (by omega), Option.bind_some]
 exact L34_3_eq (ts := ts) (js := js) hk h.rows h.off (by omega) h.job h.tasks ts.length 0 k (by omega) (by omega)
end Go.Proofs.YtmmagcjlfcicfaaGreat.Ab

/- A kernel without things: no semaphores; a kernel is started; what is told; who misses. -/
namespace Go.Proofs.YtmmagcjlfcicfaaGreat.Ab
open Go.RowKit
set_option linter.unusedSimpArgs false
set_option linter.unusedVariables false
abbrev Ev : Type := PN Int 6
theorem semas_TK0 {k : Nat} (hk : 1000 ≤ k) : S73 k TK0 = some (([], ()), ()) := by
 obtain ⟨k, rfl⟩ : ∃ m, k = m + 1000 := ⟨k - 1000, by omega⟩
 kernel_rfl
theorem audit_TK0 {k : Nat} (hk : 1000 ≤ k) : S102 k TK0 = some ((TK0, [], [], ()), ()) := by
 obtain ⟨k, rfl⟩ : ∃ m, k = m + 1000 := ⟨k - 1000, by omega⟩
 kernel_rfl
theorem L30_2_eq {k : Nat} {now ap : Int} {ts : List Tk} {bs : List Bd5} {ru ha hi : Bool} {js : List Jb} {s : List Int} {i : List Bool} {l : List Thg} {rows : List Int} {off : List Bool} (j : Nat) (hj : 0 < j) :
  L30_2 k j now ap ts bs ru ha hi js s i l rows off [] [] 0 0 = some (([], ()), ()) := by
 obtain ⟨j', rfl⟩ : ∃ j', j = j' + 1 := ⟨j - 1, by omega⟩
 rw [L30_2_s, l30_2, bif_f (by omega)]
theorem locks_TK0 {k : Nat} (hk : 1000 ≤ k) {now ap : Int} {ts : List Tk} {bs : List Bd5} {ru ha hi : Bool} {js : List Jb} {rows : List Int} {off : List Bool} : S30 k (now, ap, ts, bs, ru, ha, hi, js, TK0, rows, off) = some (([], ()), ()) := by
 unfold S30
 rw [show S73 k (now, ap, ts, bs, ru, ha, hi, js, TK0, rows, off).2.2.2.2.2.2.2.2.1 = _ from semas_TK0 hk, Option.bind_some]
 exact L30_2_eq k (by omega)
theorem S39_eq {k : Nat} (hk : 1000 ≤ k) {now ap : Int} {ts : List Tk} {bs : List Bd5} {ru ha hi : Bool} {js : List Jb} {rows : List Int} {off : List Bool} {l : List (Int × Int)} :
  S39 k now ap ts bs ru ha hi js TK0.1.1 TK0.1.2 TK0.2 rows off l = some ((), (now, ap, ts, bs, ru, ha, hi, js, TK0.1.1, TK0.1.2, TK0.2, rows, off, ()), ()) := by
 unfold S39
 obtain ⟨k, rfl⟩ : ∃ m, k = m + 1 := ⟨k - 1, by omega⟩
 rw [show S73 (k + 1) ((TK0.1.1, TK0.1.2), TK0.2) = _ from semas_TK0 hk, Option.bind_some, L39_1_s, l39_1, bif_f (by simp)]
theorem S39a_eq {k : Nat} (hk : 1000 ≤ k) {now ap : Int} {ts : List Tk} {bs : List Bd5} {ru ha hi : Bool} {js : List Jb} {rows : List Int} {off : List Bool} {ev : List Ev} {l : List (Int × Int)} :
  S39a k now ap ts bs ru ha hi js TK0.1.1 TK0.1.2 TK0.2 rows off ev l = some ((), (now, ap, ts, bs, ru, ha, hi, js, TK0.1.1, TK0.1.2, TK0.2, rows, off, ev, ()), ()) := by
 unfold S39a
 obtain ⟨k, rfl⟩ : ∃ m, k = m + 1 := ⟨k - 1, by omega⟩
 rw [show S73 (k + 1) ((TK0.1.1, TK0.1.2), TK0.2) = _ from semas_TK0 hk, Option.bind_some, L39a_1_s, l39a_1, bif_f (by simp)]
theorem S39b_eq {k : Nat} (hk : 1000 ≤ k) {now ap : Int} {ts : List Tk} {bs : List Bd5} {ru ha hi : Bool} {js : List Jb} {rows : List Int} {off : List Bool} {ev : List Ev} {l : List (Int × Int)} :
  S39b k now ap ts bs ru ha hi js TK0.1.1 TK0.1.2 TK0.2 rows off ev l = some ((), (now, ap, ts, bs, ru, ha, hi, js, TK0.1.1, TK0.1.2, TK0.2, rows, off, ev, ()), ()) := by
 unfold S39b
 obtain ⟨k, rfl⟩ : ∃ m, k = m + 1 := ⟨k - 1, by omega⟩
 rw [show S73 (k + 1) ((TK0.1.1, TK0.1.2), TK0.2) = _ from semas_TK0 hk, Option.bind_some, L39b_1_s, l39b_1, bif_f (by simp)]
def lockZ (x : I4) : Bool := bif x.1 == 9 then decide (x.2.1 ≥ 0) else false
def locksZ (t : Tk) : Bool := (t.2.2.2.1 ++ t.2.2.2.2.1).any lockZ
theorem S84_eq {k : Nat} (hk : 1000 ≤ k) {s : List I4} (h : s.length ≤ 900) : S84 k s [] = some ((idxI lockZ s, ()), ()) := by
 unfold S84
 refine idx_all (fun j i => L84_2 k j s [] (s.length : Int) i) s i0 _ (fun j i hi => ?_) (fun j => ?_) k (by omega)
 ·show L84_2 k (j + 1) s [] (s.length : Int) (i : Int) = _
  rw [L84_2_s, l84_2, bif_t (by omega), ix_nat hi, w64_nat (by omega), rd_nat]
  unfold S37 lockZ
  cases (s.getD i i0).1 == 9 <;> rfl
 ·show L84_2 k (j + 1) s [] (s.length : Int) (s.length : Int) = _
  rw [L84_2_s, l84_2, bif_f (by omega)]
theorem L12_6_eq {k : Nat} (hk : 1000 ≤ k) {now ap : Int} {ts : List Tk} {bs : List Bd5} {ru ha hi : Bool} {js : List Jb} {rows : List Int} {off : List Bool} {x1 x2 : Int} {x3 x4 x5 : Bool} (ht : lightL ts) : ∀ (d i j : Nat), i + d = ts.length → d < j →
  L12_6 k j now ap ts bs ru ha hi js TK0.1.1 TK0.1.2 TK0.2 rows off x1 x2 x3 x4 x5 [] ts (ts.length : Int) (i : Int) = bif (ts.drop i).any locksZ then some (((now, ap, ts, bs, ru, ha, hi, js, TK0, rows, off), 4, ()), ()) else some (((now, ap, ts, bs, true, ha, hi, js, TK0, rows, off), 0, ()), ())
 | 0, i, j, h, hjj => by
  obtain ⟨j', rfl⟩ : ∃ j', j = j' + 1 := ⟨j - 1, by omega⟩
  rw [L12_6_s, l12_6, bif_f (by omega), drop_nil (by omega)]
  obtain ⟨k, rfl⟩ : ∃ m, k = m + 1 := ⟨k - 1, by omega⟩
  rw [L12_12_s, l12_12, bif_f (by simp), S39_eq hk, Option.bind_some]
  rfl
 | d + 1, i, j, h, hjj => by
  obtain ⟨j', rfl⟩ : ∃ j', j = j' + 1 := ⟨j - 1, by omega⟩
  have hi' : i < ts.length := by omega
  have hl := ht.2 _ (getD_mem (z := t0) hi')
  rw [L12_6_s, l12_6, bif_t (by omega), ix_nat hi', rd_nat, S36_eq hk hl.1.1 hl.1.2.1, Option.bind_some]
  unfold S35
  rw [S84_eq hk hl.2]
  simp only [Option.bind_some, idx_ge]
  rw [drop_cons t0 hi', List.any_cons, w64_nat (by have := ht.1; omega), L12_6_eq hk ht d (i + 1) j' (by omega) (by omega)]
  show (bif locksZ (ts.getD i t0) then _ else _) = _
  cases locksZ (ts.getD i t0) <;> rfl
theorem start_new {k : Nat} (hk : 1000 ≤ k) {now ap : Int} {ts : List Tk} {bs : List Bd5} {ha hi : Bool} {js : List Jb} {rows : List Int} {off : List Bool} (h : KOK (now, ap, ts, bs, false, ha, hi, js, TK0, rows, off)) :
  S12 k (now, ap, ts, bs, false, ha, hi, js, TK0, rows, off) = some (((now, ap, ts, bs, !ts.any locksZ, ha, hi, js, TK0, rows, off), (bif ts.any locksZ then 4 else 0), ()), ()) := by
 unfold S12
 rw [S34_eq hk h, Option.bind_some]
 simp only [cond_false]
 have ht : lightL ts := h.tasks
 rw [locks_TK0 hk, Option.bind_some]
 have e := L12_6_eq (now := now) (ap := ap) (bs := bs) (ru := false) (ha := ha) (hi := hi) (js := js) (rows := rows) (off := off) (x1 := 0) (x2 := 0) (x3 := false) (x4 := false) (x5 := false) hk ht ts.length 0 k (by omega) (by have := ht.1; omega)
 rw [List.drop_zero] at e
 refine e.trans ?_
 cases ts.any locksZ <;> rfl
theorem S100_eq {k : Nat} {now ap : Int} {ts : List Tk} {bs : List Bd5} {ru ha hi : Bool} {js : List Jb} {s : List Int} {i : List Bool} {l : List Thg} {rows : List Int} {off : List Bool} {ev : List Ev} {e : Ev} (he : ev.length ≤ 100000) :
  S100 k now ap ts bs ru ha hi js s i l rows off ev e = some ((), (now, ap, ts, bs, ru, ha, hi, js, s, i, l, rows, off, ev ++ [(now, e.2)], ()), ()) := by
 unfold S100
 rw [ap_ok (by simp only [List.length_cons, List.length_nil]; omega)]
theorem S100a_eq {k : Nat} {now ap : Int} {ts : List Tk} {bs : List Bd5} {ru ha hi : Bool} {js : List Jb} {s : List Int} {i : List Bool} {l : List Thg} {rows : List Int} {off : List Bool} {ev : List Ev} {e : Ev} (he : ev.length ≤ 100000) :
  S100a k now ap ts bs ru ha hi js s i l rows off ev e = some ((), (now, ap, ts, bs, ru, ha, hi, js, s, i, l, rows, off, ev ++ [(now, e.2)], ()), ()) := by
 unfold S100a
 rw [ap_ok (by simp only [List.length_cons, List.length_nil]; omega)]
theorem all_nil {k : Nat} (hk : 1000 ≤ k) (t : Int) : S154 k [] t = some (([], ()), ()) := by
 obtain ⟨k, rfl⟩ : ∃ m, k = m + 1 := ⟨k - 1, by omega⟩
 unfold S154 S194
 rw [clone_eq (by simp), Option.bind_some]
 rw [L154_3_s, l154_3, bif_f (by simp)]
end Go.Proofs.YtmmagcjlfcicfaaGreat.Ab

/- Does the kernel do anything: what a kernel that does not run does. -/
namespace Go.Proofs.YtmmagcjlfcicfaaGreat.Ab
open Go.RowKit
set_option linter.unusedSimpArgs false
set_option linter.unusedVariables false
theorem S9_eq {k : Nat} (hk : 20000 ≤ k) : S9 k = some ((true, ()), ()) := by
 obtain ⟨k, rfl⟩ : ∃ m, k = m + 20000 := ⟨k - 20000, by omega⟩
 kernel_rfl
theorem new24 (k : Nat) {ap : Int} (h1 : 1 ≤ ap) (h2 : ap ≤ 4611686018427387904) : S25 (k + 1000) ap = some (((0, ap, [], [], false, false, false, [], ((List.replicate 12 0, List.replicate 12 false), List.replicate 12 (0, (0, 0), (0, 0), ([], []), (0, []), 0)), [], []), true, ()), ()) := by
 unfold S25
 rw [bif_f (by omega), bif_f (by omega)]
 kernel_rfl
end Go.Proofs.YtmmagcjlfcicfaaGreat.Ab

/- A tick of a kernel without things: whose end it is, who is promoted. -/
namespace Go.Proofs.YtmmagcjlfcicfaaGreat.Ab
open Go.RowKit
set_option linter.unusedSimpArgs false
set_option linter.unusedVariables false
def missW (rows : List Int) (off : List Bool) (n : Nat) : (List Int × List Bool) × Bool × Bool :=
 bif (IntKind.i64.wrap (rows.getD n 0 + 1) != 2) || off.getD n false then ((rows.set n (IntKind.i64.wrap (rows.getD n 0 + 1)), off), false, false)
 else ((rows.set n (IntKind.i64.wrap (rows.getD n 0 + 1)), off.set n true), true, !(off.set n true).any (fun b => false == b))
theorem S223_eq {k : Nat} {s : List Bool} {v : Bool} (h : s.length ≤ 900) (hk : 1000 ≤ k) : S223 k s v = some ((idxI (fun b => v == b) s, ()), ()) := by
 unfold S223
 refine idx_all (fun j i => L223_2 k j s v (s.length : Int) i) s false _ (fun j i hi => ?_) (fun j => ?_) k (by omega)
 ·show L223_2 k (j + 1) s v (s.length : Int) (i : Int) = _
  rw [L223_2_s, l223_2, bif_t (by omega), ix_nat hi, w64_nat (by omega), rd_nat]
 ·show L223_2 k (j + 1) s v (s.length : Int) (s.length : Int) = _
  rw [L223_2_s, l223_2, bif_f (by omega)]
theorem S155_eq {k : Nat} (hk : 1000 ≤ k) {rows : List Int} {off : List Bool} {n : Nat} (h1 : n < rows.length) (h2 : n < off.length) (h3 : rows.length ≤ 900) (h4 : off.length ≤ 900) :
  S155 k (rows, off) (n : Int) = some (((missW rows off n).1, (missW rows off n).2.1, (missW rows off n).2.2, ()), ()) := by
 unfold S155 S147 S196
 simp only
 rw [cl_int h3, Option.bind_some, cl_bool h4, Option.bind_some, Option.bind_some, bif_t (by omega), Option.bind_some]
 simp only
 rw [decide_eq_true (show (n : Int) < mn (rows.length : Int) (off.length : Int) by rw [mn_eq]; omega)]
 simp only [Bool.not_true, cond_false]
 have hs : ∀ v : Int, n < (rows.set n v).length := fun v => by rw [List.length_set]; exact h1
 rw [ix_nat h1, ix_nat h1, rd_nat, upd_nat, ix_nat (hs _), rd_nat, set_get, if_pos ⟨rfl, h1⟩, ix_nat h2, rd_nat]
 unfold missW
 cases hb : (IntKind.i64.wrap (rows.getD n 0 + 1) != 2) with
 | true => rfl
 | false =>
  rw [Bool.false_or, cond_false]
  cases off.getD n false with
  | true => rfl
  | false =>
   rw [cond_false, cond_false, ix_nat h2, upd_nat]
   unfold S197
   rw [S223_eq (by rw [List.length_set]; exact h4) hk]
   simp only [Option.bind_some, idx_ge]
theorem missW_len (rows : List Int) (off : List Bool) (n : Nat) : (missW rows off n).1.1.length = rows.length ∧ (missW rows off n).1.2.length = off.length := by
 unfold missW
 cases (IntKind.i64.wrap (rows.getD n 0 + 1) != 2) || off.getD n false <;> simp
def missE (now t : Int) (b : Bool × Bool) : List Ev := [(now, 5, t, 0, 0, 0)] ++ ((bif b.1 then [(now, 9, t, 0, 0, 0)] else []) ++ (bif b.2 then [(now, 10, 0, 0, 0, 0)] else []))
theorem S101_eq {k : Nat} (hk : 1000 ≤ k) {now ap : Int} {ts : List Tk} {bs : List Bd5} {ru ha hi : Bool} {js : List Jb} {rows : List Int} {off : List Bool} {ev : List Ev} {j : Jb} {n : Nat} (hn : j.1 = (n : Int)) (he : ev.length ≤ 10000) (h1 : n < rows.length) (h2 : n < off.length) (h3 : rows.length ≤ 900) (h4 : off.length ≤ 900) :
  S101 k now ap ts bs ru ha hi js TK0.1.1 TK0.1.2 TK0.2 rows off ev j = some ((), (now, ap, ts, bs, ru, ha || (missW rows off n).2.2, hi, js, TK0.1.1, TK0.1.2, TK0.2, (missW rows off n).1.1, (missW rows off n).1.2, ev ++ missE now n (missW rows off n).2, ()), ()) := by
 unfold S101
 rw [hn, S100_eq (by omega), Option.bind_some]
 simp only
 have hl : S30 k (now, ap, ts, bs, ru, ha, hi, js, ((TK0.1.1, TK0.1.2), TK0.2), rows, off) = some (([], ()), ()) := locks_TK0 hk
 rw [hl, Option.bind_some]
 simp only
 rw [all_nil hk, Option.bind_some, S39a_eq hk, Option.bind_some]
 simp only
 rw [S155_eq hk h1 h2 h3 h4, Option.bind_some]
 simp only
 unfold missE
 cases (missW rows off n).2.1 with
 | true =>
  rw [cond_true, S100_eq (by simp; omega), Option.bind_some]
  simp only
  unfold j101_7
  cases (missW rows off n).2.2 with
  | true =>
   rw [cond_true, S100_eq (by simp; omega), Option.bind_some]
   simp
  | false => simp
 | false =>
  rw [cond_false]
  unfold j101_7
  cases (missW rows off n).2.2 with
  | true =>
   rw [cond_true, S100_eq (by simp; omega), Option.bind_some]
   simp
  | false => simp
abbrev EndT : Type := List Jb × List Ev × List Int × List Bool × Bool
def endS (now : Int) (ts : List Tk) (s : EndT) (j : Jb) : EndT :=
 bif IntKind.i64.wrap (now - j.2.1) != (ts.getD j.1.toNat t0).2.2.1 then (s.1 ++ [j], s.2.1, s.2.2.1, s.2.2.2.1, s.2.2.2.2)
 else bif j.2.2.2.1 == 2 then (s.1, s.2.1 ++ [(now, 13, j.1, 0, 0, 0)], s.2.2.1, s.2.2.2.1, s.2.2.2.2)
 else (s.1, s.2.1 ++ missE now j.1 (missW s.2.2.1 s.2.2.2.1 j.1.toNat).2, (missW s.2.2.1 s.2.2.2.1 j.1.toNat).1.1, (missW s.2.2.1 s.2.2.2.1 j.1.toNat).1.2, s.2.2.2.2 || (missW s.2.2.1 s.2.2.2.1 j.1.toNat).2.2)
theorem missE_len (now t : Int) (b : Bool × Bool) : (missE now t b).length ≤ 3 := by
 obtain ⟨a, b⟩ := b
 unfold missE
 cases a <;> cases b <;> simp
theorem L56_2_eq {k : Nat} (hk : 1000 ≤ k) {now ap : Int} {ts : List Tk} {bs : List Bd5} {ru hi : Bool} {js0 js : List Jb} (hl : js.length ≤ 800) (hjs : ∀ j ∈ js, 0 ≤ j.1 ∧ j.1 < (ts.length : Int)) (hts : ts.length ≤ 900) :
  ∀ (d i j : Nat) (s : EndT), i + d = js.length → d < j → s.1.length ≤ i → s.2.1.length ≤ 3 * i → s.2.2.1.length = ts.length → s.2.2.2.1.length = ts.length →
  L56_2 k j now ap ts bs ru s.2.2.2.2 hi js0 TK0.1.1 TK0.1.2 TK0.2 s.2.2.1 s.2.2.2.1 s.2.1 s.1 js (js.length : Int) (i : Int) =
   some ((), (now, ap, ts, bs, ru, ((js.drop i).foldl (endS now ts) s).2.2.2.2, hi, ((js.drop i).foldl (endS now ts) s).1, TK0.1.1, TK0.1.2, TK0.2, ((js.drop i).foldl (endS now ts) s).2.2.1, ((js.drop i).foldl (endS now ts) s).2.2.2.1, ((js.drop i).foldl (endS now ts) s).2.1, ()), ())
 | 0, i, j, s, h, hjj, h1, h2, h3, h4 => by
  obtain ⟨j', rfl⟩ : ∃ j', j = j' + 1 := ⟨j - 1, by omega⟩
  rw [L56_2_s, l56_2, bif_f (by omega), drop_nil (by omega)]
  rfl
 | d + 1, i, j, s, h, hjj, h1, h2, h3, h4 => by
  obtain ⟨j', rfl⟩ : ∃ j', j = j' + 1 := ⟨j - 1, by omega⟩
  have hi' : i < js.length := by omega
  have hb := hjs _ (getD_mem (z := j0) hi')
  obtain ⟨n, hn⟩ : ∃ n : Nat, (js.getD i j0).1 = (n : Int) := ⟨(js.getD i j0).1.toNat, by omega⟩
  have hn2 : n < ts.length := by omega
  have htn : (js.getD i j0).1.toNat = n := by omega
  rw [L56_2_s, l56_2, bif_t (by omega), ix_nat hi', rd_nat, show js.getD i (0, 0, 0, 0, (0, prep (α := Int) 8 0, [], false), (0, prep (α := Int) 8 0, [], false), [], false) = js.getD i j0 from rfl, hn, ix_nat hn2, rd_nat, drop_cons j0 hi', List.foldl_cons, w64_nat (by omega)]
  have hw := missW_len s.2.2.1 s.2.2.2.1 n
  cases hc : IntKind.i64.wrap (now - (js.getD i j0).2.1) != (ts.getD n t0).2.2.1 with
  | true =>
   have e : endS now ts s (js.getD i j0) = (s.1 ++ [js.getD i j0], s.2.1, s.2.2.1, s.2.2.2.1, s.2.2.2.2) := by unfold endS; rw [htn, hc, cond_true]
   rw [cond_true, ap_ok (by simp only [List.length_cons, List.length_nil]; omega), e]
   exact L56_2_eq hk hl hjs hts d (i + 1) j' (s.1 ++ [js.getD i j0], s.2.1, s.2.2.1, s.2.2.2.1, s.2.2.2.2) (by omega) (by omega) (by simp only [List.length_append, List.length_cons, List.length_nil]; omega) (by simp only; omega) h3 h4
  | false =>
   rw [cond_false]
   cases hp : (js.getD i j0).2.2.2.1 == 2 with
   | true =>
    have e : endS now ts s (js.getD i j0) = (s.1, s.2.1 ++ [(now, 13, (n : Int), 0, 0, 0)], s.2.2.1, s.2.2.2.1, s.2.2.2.2) := by unfold endS; rw [htn, hc, cond_false, hp, cond_true, hn]
    rw [cond_true, S100_eq (by omega), Option.bind_some, e]
    exact L56_2_eq hk hl hjs hts d (i + 1) j' (s.1, s.2.1 ++ [(now, 13, (n : Int), 0, 0, 0)], s.2.2.1, s.2.2.2.1, s.2.2.2.2) (by omega) (by omega) (by simp only; omega) (by simp; omega) h3 h4
   | false =>
    have e : endS now ts s (js.getD i j0) = (s.1, s.2.1 ++ missE now n (missW s.2.2.1 s.2.2.2.1 n).2, (missW s.2.2.1 s.2.2.2.1 n).1.1, (missW s.2.2.1 s.2.2.2.1 n).1.2, s.2.2.2.2 || (missW s.2.2.1 s.2.2.2.1 n).2.2) := by unfold endS; rw [htn, hc, cond_false, hp, cond_false, hn]
    have hm := missE_len now n (missW s.2.2.1 s.2.2.2.1 n).2
    rw [cond_false, S101_eq hk hn (by omega) (by omega) (by omega) (by omega) (by omega), Option.bind_some, e]
    exact L56_2_eq hk hl hjs hts d (i + 1) j' (s.1, s.2.1 ++ missE now n (missW s.2.2.1 s.2.2.2.1 n).2, (missW s.2.2.1 s.2.2.2.1 n).1.1, (missW s.2.2.1 s.2.2.2.1 n).1.2, s.2.2.2.2 || (missW s.2.2.1 s.2.2.2.1 n).2.2) (by omega) (by omega) (by simp only; omega) (by simp only [List.length_append]; omega) (by simp only; omega) (by simp only; omega)
def endsM (now : Int) (ts : List Tk) (js : List Jb) (rows : List Int) (off : List Bool) (ha : Bool) : EndT := js.foldl (endS now ts) ([], [], rows, off, ha)
theorem S56_eq {k : Nat} (hk : 1000 ≤ k) {now ap : Int} {ts : List Tk} {bs : List Bd5} {ru ha hi : Bool} {js : List Jb} {rows : List Int} {off : List Bool} (hl : js.length ≤ 800) (hjs : ∀ j ∈ js, 0 ≤ j.1 ∧ j.1 < (ts.length : Int)) (hts : ts.length ≤ 900) (hr : rows.length = ts.length) (ho : off.length = ts.length) :
  S56 k now ap ts bs ru ha hi js TK0.1.1 TK0.1.2 TK0.2 rows off [] = some ((), (now, ap, ts, bs, ru, (endsM now ts js rows off ha).2.2.2.2, hi, (endsM now ts js rows off ha).1, TK0.1.1, TK0.1.2, TK0.2, (endsM now ts js rows off ha).2.2.1, (endsM now ts js rows off ha).2.2.2.1, (endsM now ts js rows off ha).2.1, ()), ()) := by
 unfold S56
 have e := L56_2_eq (ap := ap) (bs := bs) (ru := ru) (hi := hi) (js0 := js) (now := now) hk hl hjs hts js.length 0 k ([], [], rows, off, ha) (by omega) (by omega) (by simp) (by simp) hr ho
 rw [List.drop_zero] at e
 exact e
def promJ (now : Int) (bs : List Bd5) (j : Jb) : Jb :=
 bif j.2.2.2.1 != 2 then (bif decide (IntKind.i64.wrap (now - j.2.1) ≥ (bs.getD j.1.toNat (prep (α := Int) 5 0)).2.2.2.2) then (j.1, j.2.1, j.2.2.1, j.2.2.2.1, j.2.2.2.2.1, j.2.2.2.2.2.1, j.2.2.2.2.2.2.1, true) else j) else j
theorem map_step {α : Type} {f : α → α} {l : List α} {i : Nat} (z : α) (h : i < l.length) : ((l.take i).map f ++ l.drop i).set i (f (l.getD i z)) = (l.take (i + 1)).map f ++ l.drop (i + 1) := by
 have e : i - ((l.take i).map f).length = 0 := by simp; omega
 rw [List.set_append_right _ _ (by simp; omega), e, drop_cons z h, List.set_cons_zero, List.take_succ_eq_append_getElem h, List.map_append, List.append_assoc, getD_in h]
 rfl
theorem map_get {α : Type} {f : α → α} {l : List α} {i : Nat} (z : α) (h : i < l.length) : ((l.take i).map f ++ l.drop i).getD i z = l.getD i z := by
 have e : i - ((l.take i).map f).length = 0 := by simp; omega
 rw [getD_app_r (by simp; omega), e, drop_cons z h]
 rfl
theorem map_len {α : Type} {f : α → α} {l : List α} {i : Nat} (h : i ≤ l.length) : ((l.take i).map f ++ l.drop i).length = l.length := by simp; omega
theorem L57_1_eq {k : Nat} {now ap : Int} {ts : List Tk} {bs : List Bd5} {ru ha hi : Bool} {js : List Jb} {g : List Int} {l : List Bool} {u : List Thg} {rows : List Int} {off : List Bool} {ev : List Ev} (hl : js.length ≤ 800) (hjs : ∀ j ∈ js, 0 ≤ j.1 ∧ j.1 < (bs.length : Int)) :
  ∀ (d i j : Nat), i + d = js.length → d < j →
  L57_1 k j now ap ts bs ru ha hi ((js.take i).map (promJ now bs) ++ js.drop i) g l u rows off ev (js.length : Int) (i : Int) =
   some ((), (now, ap, ts, bs, ru, ha, hi, js.map (promJ now bs), g, l, u, rows, off, ev, ()), ())
 | 0, i, j, h, hjj => by
  obtain ⟨j', rfl⟩ : ∃ j', j = j' + 1 := ⟨j - 1, by omega⟩
  rw [L57_1_s, l57_1, bif_f (by omega), drop_nil (by omega), List.take_of_length_le (by omega), List.append_nil]
 | d + 1, i, j, h, hjj => by
  obtain ⟨j', rfl⟩ : ∃ j', j = j' + 1 := ⟨j - 1, by omega⟩
  have hi' : i < js.length := by omega
  have hb := hjs _ (getD_mem (z := j0) hi')
  obtain ⟨n, hn⟩ : ∃ n : Nat, (js.getD i j0).1 = (n : Int) := ⟨(js.getD i j0).1.toNat, by omega⟩
  have hn2 : n < bs.length := by omega
  have htn : (js.getD i j0).1.toNat = n := by omega
  have hlen : ((js.take i).map (promJ now bs) ++ js.drop i).length = js.length := map_len (by omega)
  have hg : ((js.take i).map (promJ now bs) ++ js.drop i).getD i (0, 0, 0, 0, (0, prep (α := Int) 8 0, [], false), (0, prep (α := Int) 8 0, [], false), [], false) = js.getD i j0 := map_get j0 hi'
  have hst := map_step (f := promJ now bs) j0 hi'
  have ih := L57_1_eq (k := k) (now := now) (ap := ap) (ts := ts) (bs := bs) (ru := ru) (ha := ha) (hi := hi) (js := js) (g := g) (l := l) (u := u) (rows := rows) (off := off) (ev := ev) hl hjs d (i + 1) j' (by omega) (by omega)
  have hsame : promJ now bs (js.getD i j0) = js.getD i j0 → (js.take i).map (promJ now bs) ++ js.drop i = (js.take (i + 1)).map (promJ now bs) ++ js.drop (i + 1) := fun e => by
   rw [← hst, e]
   exact (by have := set_same (l := (js.take i).map (promJ now bs) ++ js.drop i) (n := i) (z := j0); rw [map_get j0 hi'] at this; exact this.symm)
  rw [L57_1_s, l57_1, bif_t (by omega), ix_nat (by omega), rd_nat, hg, hn, ix_nat hn2, rd_nat, w64_nat (by omega)]
  cases hp : (js.getD i j0).2.2.2.1 != 2 with
  | false =>
   rw [cond_false, hsame (by unfold promJ; rw [hp, cond_false]), ih]
  | true =>
   rw [cond_true]
   by_cases hq : IntKind.i64.wrap (now - (js.getD i j0).2.1) ≥ (bs.getD n (prep (α := Int) 5 0)).2.2.2.2
   ·rw [bif_t hq, ix_nat (by omega), upd_nat]
    have e : promJ now bs (js.getD i j0) = ((n : Int), (js.getD i j0).2.1, (js.getD i j0).2.2.1, (js.getD i j0).2.2.2.1, (js.getD i j0).2.2.2.2.1, (js.getD i j0).2.2.2.2.2.1, (js.getD i j0).2.2.2.2.2.2.1, true) := by unfold promJ; rw [hp, cond_true, htn, bif_t hq, hn]
    rw [← e, hst, ih]
   ·rw [bif_f hq, hsame (by unfold promJ; rw [hp, cond_true, htn, bif_f hq]), ih]
theorem S57_eq {k : Nat} (hk : 1000 ≤ k) {now ap : Int} {ts : List Tk} {bs : List Bd5} {ru ha hi : Bool} {js : List Jb} {g : List Int} {l : List Bool} {u : List Thg} {rows : List Int} {off : List Bool} {ev : List Ev} (hl : js.length ≤ 800) (hjs : ∀ j ∈ js, 0 ≤ j.1 ∧ j.1 < (bs.length : Int)) :
  S57 k now ap ts bs ru ha hi js g l u rows off ev = some ((), (now, ap, ts, bs, ru, ha, hi, js.map (promJ now bs), g, l, u, rows, off, ev, ()), ()) := by
 unfold S57
 exact L57_1_eq hl hjs js.length 0 k (by omega) (by omega)
theorem S58_eq {k : Nat} (hk : 1000 ≤ k) {now ap : Int} {ts : List Tk} {bs : List Bd5} {ru ha hi : Bool} {js : List Jb} {rows : List Int} {off : List Bool} {ev : List Ev} :
  S58 k now ap ts bs ru ha hi js TK0.1.1 TK0.1.2 TK0.2 rows off ev = some ((), (now, ap, ts, bs, ru, ha, hi, js, TK0.1.1, TK0.1.2, TK0.2, rows, off, ev, ()), ()) := by
 unfold S58
 rw [show S102 k ((TK0.1.1, TK0.1.2), TK0.2) = _ from audit_TK0 hk, Option.bind_some]
 obtain ⟨k, rfl⟩ : ∃ m, k = m + 1 := ⟨k - 1, by omega⟩
 simp only
 rw [L58_3_s, l58_3, bif_f (by simp)]
end Go.Proofs.YtmmagcjlfcicfaaGreat.Ab

/- A tick of a kernel without things: one goes on, or is hit. -/
namespace Go.Proofs.YtmmagcjlfcicfaaGreat.Ab
open Go.RowKit
set_option linter.unusedSimpArgs false
set_option linter.unusedVariables false
def stepX (l : List I4) (m : Mc) : I4 := l.getD m.1.toNat i0
def stepM (l : List I4) (m : Mc) : Mc := ((go (stepX l m) (m.1.toNat : Int) m.2.1 m.2.2.1.reverse).1, eff (stepX l m) m.2.1, (go (stepX l m) (m.1.toNat : Int) m.2.1 m.2.2.1.reverse).2.reverse, (stepX l m).1 == 0)
structure MOK (l : List I4) (m : Mc) : Prop where
 len : l.length ≤ 900
 pc : 0 ≤ m.1 ∧ m.1.toNat < l.length
 may : mayI (stepX l m) = true
 reps : m.2.2.1.length ≤ 100
 bound : ∀ r ∈ m.2.2.1, r.2.2 ≤ 1000
 mem : inM m.2.1
 on : m.2.2.2 = false
 plain : (stepX l m).1 ≠ 9 ∧ (stepX l m).1 ≠ 10
theorem vm_stepM {k : Nat} (hk : 1000 ≤ k) {l : List I4} {m : Mc} (h : MOK l m) : S208 k l m = some ((stepM l m, stepX l m, true, ()), ()) := by
 obtain ⟨pc, mem, rs, ov⟩ := m
 obtain ⟨n, rfl⟩ : ∃ n : Nat, pc = (n : Int) := ⟨pc.toNat, by have : 0 ≤ pc := h.pc.1; omega⟩
 have ho : ov = false := h.on
 subst ho
 have e := S208_eq hk (l := l) (n := n) (mem := mem) (R := rs.reverse) h.len (by have : (n : Int).toNat < l.length := h.pc.2; omega) h.may (by rw [List.length_reverse]; exact h.reps) (fun r hr => h.bound r (List.mem_reverse.1 hr)) h.mem
 rw [List.reverse_reverse] at e
 exact e
def codeJ (t : Tk) (p : Int) : List I4 := bif p == 0 then t.2.2.2.1 else bif p == 1 then t.2.2.2.2.1 else t.2.2.2.2.2
theorem S209_eq {k : Nat} {t : Tk} (ht : lightT t) {j : Jb} (hp : 0 ≤ j.2.2.2.1 ∧ j.2.2.2.1 ≤ 2) : S209 k t j = some ((codeJ t j.2.2.2.1, ()), ()) := by
 unfold S209
 obtain ⟨a, b, c, p, r⟩ := j
 have hp' : p = 0 ∨ p = 1 ∨ p = 2 := by have : 0 ≤ p ∧ p ≤ 2 := hp; omega
 rcases hp' with rfl | rfl | rfl
 ·rw [show mget (.int .i64) (.sl _ (.pair (.int .i64) (.pair (.int .i64) (.pair (.int .i64) (.int .i64))))) (0 : Int) _ ([] : List I4) = t.2.2.2.1 from rfl, cl_inst ht.1, Option.bind_some]; rfl
 ·rw [show mget (.int .i64) (.sl _ (.pair (.int .i64) (.pair (.int .i64) (.pair (.int .i64) (.int .i64))))) (1 : Int) _ ([] : List I4) = t.2.2.2.2.1 from rfl, cl_inst ht.2.1, Option.bind_some]; rfl
 ·rw [show mget (.int .i64) (.sl _ (.pair (.int .i64) (.pair (.int .i64) (.pair (.int .i64) (.int .i64))))) (2 : Int) _ ([] : List I4) = t.2.2.2.2.2 from rfl, cl_inst ht.2.2, Option.bind_some]; rfl
theorem S210_eq {k : Nat} {m : Mc} (h : m.2.2.1.length ≤ 900) : S210 k m = some ((m, ()), ()) := by
 unfold S210
 rw [cl_rep h, Option.bind_some]
theorem S207_eq {k : Nat} {j : Jb} (h : JOK j) : S207 k j = some ((j, ()), ()) := by
 unfold S207
 rw [S210_eq (by have := h.m; omega), Option.bind_some, S210_eq (by have := h.kept; omega), Option.bind_some, cl_int (by rw [h.held]; simp), Option.bind_some]
structure GOK (ts : List Tk) (j : Jb) : Prop where
 ok : JOK j
 task : 0 ≤ j.1 ∧ j.1 < (ts.length : Int)
 phase : 0 ≤ j.2.2.2.1 ∧ j.2.2.2.1 ≤ 2
 m : MOK (codeJ (ts.getD j.1.toNat t0) j.2.2.2.1) j.2.2.2.2.1
def goJ (t : Tk) (j : Jb) : Jb := (j.1, j.2.1, j.2.2.1, j.2.2.2.1, stepM (codeJ t j.2.2.2.1) j.2.2.2.2.1, (bif (stepX (codeJ t j.2.2.2.1) j.2.2.2.2.1).1 == 11 then stepM (codeJ t j.2.2.2.1) j.2.2.2.2.1 else j.2.2.2.2.2.1), j.2.2.2.2.2.2)
theorem stepM_len {l : List I4} {m : Mc} (h : MOK l m) : (stepM l m).2.2.1.length ≤ 900 := by
 have hg : ∀ (R : List Rp) (pc : Int), (goesR pc R).2.length ≤ R.length := fun R => by
  induction R with
  | nil => intro pc; simp [goesR]
  | cons r R ih =>
   intro pc
   rw [goesR]
   by_cases a : r.2.1 < pc
   ·rw [if_pos a]
    by_cases b : r.2.2 > 0
    ·rw [if_pos b]; simp
    ·rw [if_neg b]; have := ih pc; simp only [List.length_cons]; omega
   ·rw [if_neg a]; exact Nat.le_refl _
 have hn : ∀ (x : I4) (pc : Int) (mem : Mem) (R : List Rp), (nxt x pc mem R).2.length ≤ R.length + 1 := fun x pc mem R => by
  unfold nxt; split; · simp
  ·split; · split <;> simp
   ·split <;> simp
 unfold stepM
 rw [List.length_reverse]
 unfold go
 have h1 := hg (nxt (stepX l m) (m.1.toNat : Int) m.2.1 m.2.2.1.reverse).2 (nxt (stepX l m) (m.1.toNat : Int) m.2.1 m.2.2.1.reverse).1
 have h2 := hn (stepX l m) (m.1.toNat : Int) m.2.1 m.2.2.1.reverse
 rw [List.length_reverse] at h2
 have := h.reps
 omega
theorem S161_eq {k : Nat} (hk : 1000 ≤ k) {ts : List Tk} {j : Jb} (ht : lightT (ts.getD j.1.toNat t0)) (h : GOK ts j) :
  S161 k (ts.getD j.1.toNat t0) j = some ((goJ (ts.getD j.1.toNat t0) j, stepX (codeJ (ts.getD j.1.toNat t0) j.2.2.2.1) j.2.2.2.2.1, true, ()), ()) := by
 unfold S161
 rw [S207_eq h.ok, Option.bind_some, S209_eq ht h.phase, Option.bind_some, vm_stepM hk h.m, Option.bind_some]
 simp only [Bool.not_true, cond_false]
 have hp := h.m.plain
 unfold goJ
 cases e : (stepX (codeJ (ts.getD j.1.toNat t0) j.2.2.2.1) j.2.2.2.2.1).1 == 11 with
 | true => rw [cond_true, cond_true, S210_eq (stepM_len h.m), Option.bind_some]
 | false =>
  rw [cond_false, cond_false, beq_eq_false_iff_ne.2 hp.1, cond_false, beq_eq_false_iff_ne.2 hp.2, cond_false]
theorem good_at {k : Nat} {r : List Int} {o : List Bool} {n : Nat} (h1 : r.length ≤ 900) (h2 : o.length ≤ 900) (h : n < r.length) : S83 k (r, o) (n : Int) = some (((r.set n 0, o), ()), ()) := by
 unfold S83 S147
 simp only
 rw [cl_int h1, Option.bind_some, cl_bool h2, Option.bind_some, Option.bind_some, bif_t (by omega), bif_t (by simp only; omega), ix_nat h, upd_nat]
def newM (a : Int) : Mc := (0, (a, 0, 0, 0, 0, 0, 0, 0), [], false)
def optJ (j : Jb) : Jb := (j.1, j.2.1, j.2.2.1, 2, newM j.2.2.2.2.1.2.1.1, newM j.2.2.2.2.1.2.1.1, [], false)
def flJ (j : Jb) : Int × Int × Int × Int × Int × Int × Int × Int × Int × Int × Int × Int × Int × List Rp × Bool × Int × Int × Int × Int × Int × Int × Int × Int × Int × List Rp × Bool × List Int × Bool × Unit := (j.1, j.2.1, j.2.2.1, j.2.2.2.1, j.2.2.2.2.1.1, j.2.2.2.2.1.2.1.1, j.2.2.2.2.1.2.1.2.1, j.2.2.2.2.1.2.1.2.2.1, j.2.2.2.2.1.2.1.2.2.2.1, j.2.2.2.2.1.2.1.2.2.2.2.1, j.2.2.2.2.1.2.1.2.2.2.2.2.1, j.2.2.2.2.1.2.1.2.2.2.2.2.2.1, j.2.2.2.2.1.2.1.2.2.2.2.2.2.2, j.2.2.2.2.1.2.2.1, j.2.2.2.2.1.2.2.2, j.2.2.2.2.2.1.1, j.2.2.2.2.2.1.2.1.1, j.2.2.2.2.2.1.2.1.2.1, j.2.2.2.2.2.1.2.1.2.2.1, j.2.2.2.2.2.1.2.1.2.2.2.1, j.2.2.2.2.2.1.2.1.2.2.2.2.1, j.2.2.2.2.2.1.2.1.2.2.2.2.2.1, j.2.2.2.2.2.1.2.1.2.2.2.2.2.2.1, j.2.2.2.2.2.1.2.1.2.2.2.2.2.2.2, j.2.2.2.2.2.1.2.2.1, j.2.2.2.2.2.1.2.2.2, j.2.2.2.2.2.2.1, j.2.2.2.2.2.2.2, ())
abbrev RunT : Type := Jb × Bool × List Ev × List Int
def doneJ (now : Int) (t : Tk) (j : Jb) (rows : List Int) : RunT :=
 bif j.2.2.2.1 == 2 then (j, true, [(now, 4, j.1, 0, j.2.2.2.2.1.2.1.1, 0)], rows)
 else (optJ j, (t.2.2.2.2.2.length : Int) == 0, [(now, 3, j.1, 0, j.2.2.2.2.1.2.1.1, 0)] ++ (bif (j.2.2.2.1 == 0) && decide ((t.2.2.2.2.1.length : Int) > 0) then [(now, 8, j.1, 0, 0, 0)] else []), rows.set j.1.toNat 0)
theorem j164_8_eq {k : Nat} (hk : 1000 ≤ k) {now ap : Int} {ts : List Tk} {bs : List Bd5} {ru ha hi : Bool} {js : List Jb} {rows : List Int} {off : List Bool} {ev : List Ev} {j : Jb} (hj : JOK j) (h : 0 ≤ j.1 ∧ j.1 < (ts.length : Int)) (hr : rows.length = ts.length) (ho : off.length ≤ 900) (ht : ts.length ≤ 900) :
  j164_8 k now ap ts bs ru ha hi js TK0.1.1 TK0.1.2 TK0.2 rows off ev j.1 j.2.1 j.2.2.1 j.2.2.2.1 j.2.2.2.2.1.1 j.2.2.2.2.1.2.1.1 j.2.2.2.2.1.2.1.2.1 j.2.2.2.2.1.2.1.2.2.1 j.2.2.2.2.1.2.1.2.2.2.1 j.2.2.2.2.1.2.1.2.2.2.2.1 j.2.2.2.2.1.2.1.2.2.2.2.2.1 j.2.2.2.2.1.2.1.2.2.2.2.2.2.1 j.2.2.2.2.1.2.1.2.2.2.2.2.2.2 j.2.2.2.2.1.2.2.1 j.2.2.2.2.1.2.2.2 j.2.2.2.2.2.1.1 j.2.2.2.2.2.1.2.1.1 j.2.2.2.2.2.1.2.1.2.1 j.2.2.2.2.2.1.2.1.2.2.1 j.2.2.2.2.2.1.2.1.2.2.2.1 j.2.2.2.2.2.1.2.1.2.2.2.2.1 j.2.2.2.2.2.1.2.1.2.2.2.2.2.1 j.2.2.2.2.2.1.2.1.2.2.2.2.2.2.1 j.2.2.2.2.2.1.2.1.2.2.2.2.2.2.2 j.2.2.2.2.2.1.2.2.1 j.2.2.2.2.2.1.2.2.2 j.2.2.2.2.2.2.1 j.2.2.2.2.2.2.2 = some (((((ts.getD j.1.toNat t0).2.2.2.2.2.length : Int) == 0), ()), (now, ap, ts, bs, ru, ha, hi, js, TK0.1.1, TK0.1.2, TK0.2, rows.set j.1.toNat 0, off, ev, ()), flJ (optJ j), ()) := by
 obtain ⟨n, hn⟩ : ∃ n : Nat, j.1 = (n : Int) := ⟨j.1.toNat, by omega⟩
 unfold j164_8 S213 S99
 rw [show S207 k (j.1, j.2.1, j.2.2.1, j.2.2.2.1, (j.2.2.2.2.1.1, (j.2.2.2.2.1.2.1.1, j.2.2.2.2.1.2.1.2.1, j.2.2.2.2.1.2.1.2.2.1, j.2.2.2.2.1.2.1.2.2.2.1, j.2.2.2.2.1.2.1.2.2.2.2.1, j.2.2.2.2.1.2.1.2.2.2.2.2.1, j.2.2.2.2.1.2.1.2.2.2.2.2.2.1, j.2.2.2.2.1.2.1.2.2.2.2.2.2.2), j.2.2.2.2.1.2.2.1, j.2.2.2.2.1.2.2.2), (j.2.2.2.2.2.1.1, (j.2.2.2.2.2.1.2.1.1, j.2.2.2.2.2.1.2.1.2.1, j.2.2.2.2.2.1.2.1.2.2.1, j.2.2.2.2.2.1.2.1.2.2.2.1, j.2.2.2.2.2.1.2.1.2.2.2.2.1, j.2.2.2.2.2.1.2.1.2.2.2.2.2.1, j.2.2.2.2.2.1.2.1.2.2.2.2.2.2.1, j.2.2.2.2.2.1.2.1.2.2.2.2.2.2.2), j.2.2.2.2.2.1.2.2.1, j.2.2.2.2.2.1.2.2.2), j.2.2.2.2.2.2.1, j.2.2.2.2.2.2.2) = some ((j, ()), ()) from S207_eq hj, hn, good_at (by omega) ho (by omega)]
 simp only [Option.bind_some]
 rw [hn, ix_nat (by omega), rd_nat, Int.toNat_natCast]
 unfold flJ optJ newM
 simp only [hn]
theorem done_eq {k : Nat} (hk : 1000 ≤ k) {now ap : Int} {ts : List Tk} {bs : List Bd5} {ru ha hi : Bool} {js : List Jb} {rows : List Int} {off : List Bool} {ev : List Ev} {j : Jb} (hj : JOK j) (h : 0 ≤ j.1 ∧ j.1 < (ts.length : Int)) (hr : rows.length = ts.length) (ho : off.length ≤ 900) (ht : ts.length ≤ 900) (he : ev.length ≤ 10000) :
  S164 k now ap ts bs ru ha hi js TK0.1.1 TK0.1.2 TK0.2 rows off ev j.1 j.2.1 j.2.2.1 j.2.2.2.1 j.2.2.2.2.1.1 j.2.2.2.2.1.2.1.1 j.2.2.2.2.1.2.1.2.1 j.2.2.2.2.1.2.1.2.2.1 j.2.2.2.2.1.2.1.2.2.2.1 j.2.2.2.2.1.2.1.2.2.2.2.1 j.2.2.2.2.1.2.1.2.2.2.2.2.1 j.2.2.2.2.1.2.1.2.2.2.2.2.2.1 j.2.2.2.2.1.2.1.2.2.2.2.2.2.2 j.2.2.2.2.1.2.2.1 j.2.2.2.2.1.2.2.2 j.2.2.2.2.2.1.1 j.2.2.2.2.2.1.2.1.1 j.2.2.2.2.2.1.2.1.2.1 j.2.2.2.2.2.1.2.1.2.2.1 j.2.2.2.2.2.1.2.1.2.2.2.1 j.2.2.2.2.2.1.2.1.2.2.2.2.1 j.2.2.2.2.2.1.2.1.2.2.2.2.2.1 j.2.2.2.2.2.1.2.1.2.2.2.2.2.2.1 j.2.2.2.2.2.1.2.1.2.2.2.2.2.2.2 j.2.2.2.2.2.1.2.2.1 j.2.2.2.2.2.1.2.2.2 j.2.2.2.2.2.2.1 j.2.2.2.2.2.2.2 = some (((doneJ now (ts.getD j.1.toNat t0) j rows).2.1, ()), (now, ap, ts, bs, ru, ha, hi, js, TK0.1.1, TK0.1.2, TK0.2, (doneJ now (ts.getD j.1.toNat t0) j rows).2.2.2, off, ev ++ (doneJ now (ts.getD j.1.toNat t0) j rows).2.2.1, ()), flJ (doneJ now (ts.getD j.1.toNat t0) j rows).1, ()) := by
 obtain ⟨n, hn⟩ : ∃ n : Nat, j.1 = (n : Int) := ⟨j.1.toNat, by omega⟩
 unfold S164 doneJ
 cases hp : j.2.2.2.1 == 2 with
 | true =>
  simp only [cond_true]
  rw [S100a_eq (by omega), Option.bind_some]
  rfl
 | false =>
  simp only [cond_false]
  rw [S100a_eq (by omega), Option.bind_some]
  simp only
  cases hp0 : j.2.2.2.1 == 0 with
  | false =>
   simp only [cond_false, Bool.false_and, List.append_nil]
   exact j164_8_eq hk hj h hr ho ht
  | true =>
   simp only [cond_true, Bool.true_and]
   rw [hn, ix_nat (by omega), rd_nat, ← hn, show ts.getD n (0, 0, 0, [], [], []) = ts.getD n t0 from rfl]
   have e := fun ev : List Ev => j164_8_eq (now := now) (ap := ap) (bs := bs) (ru := ru) (ha := ha) (hi := hi) (js := js) (off := off) (ev := ev) hk hj h hr ho ht
   rw [show j.1.toNat = n by omega] at e ⊢
   cases hw : decide (((ts.getD n t0).2.2.2.2.1.length : Int) > 0) with
   | false =>
    simp only [cond_false, List.append_nil]
    exact e _
   | true =>
    simp only [cond_true]
    rw [S100a_eq (by simp; omega), Option.bind_some]
    simp only
    rw [← List.append_assoc]
    exact e _
end Go.Proofs.YtmmagcjlfcicfaaGreat.Ab

/- A tick of a kernel without things: one goes on, or is hit. -/
namespace Go.Proofs.YtmmagcjlfcicfaaGreat.Ab
open Go.RowKit
set_option linter.unusedSimpArgs false
set_option linter.unusedVariables false
def goesJ (now : Int) (t : Tk) (j : Jb) (rows : List Int) : RunT :=
 bif (goJ t j).2.2.2.2.1.2.2.2 then doneJ now t (goJ t j) rows else (goJ t j, false, [], rows)
theorem stepM_reps {l : List I4} {m : Mc} (h : MOK l m) : (stepM l m).2.2.1.length ≤ m.2.2.1.length + 1 := by
 have hg : ∀ (R : List Rp) (pc : Int), (goesR pc R).2.length ≤ R.length := fun R => by
  induction R with
  | nil => intro pc; simp [goesR]
  | cons r R ih =>
   intro pc
   rw [goesR]
   by_cases a : r.2.1 < pc
   ·rw [if_pos a]
    by_cases b : r.2.2 > 0
    ·rw [if_pos b]; simp
    ·rw [if_neg b]; have := ih pc; simp only [List.length_cons]; omega
   ·rw [if_neg a]; exact Nat.le_refl _
 have hn : ∀ (x : I4) (pc : Int) (mem : Mem) (R : List Rp), (nxt x pc mem R).2.length ≤ R.length + 1 := fun x pc mem R => by
  unfold nxt; split; · simp
  ·split; · split <;> simp
   ·split <;> simp
 unfold stepM
 rw [List.length_reverse]
 unfold go
 have h1 := hg (nxt (stepX l m) (m.1.toNat : Int) m.2.1 m.2.2.1.reverse).2 (nxt (stepX l m) (m.1.toNat : Int) m.2.1 m.2.2.1.reverse).1
 have h2 := hn (stepX l m) (m.1.toNat : Int) m.2.1 m.2.2.1.reverse
 rw [List.length_reverse] at h2
 omega
def few (j : Jb) : Prop := j.2.2.2.2.1.2.2.1.length ≤ 10 ∧ j.2.2.2.2.2.1.2.2.1.length ≤ 10
theorem goJ_ok {ts : List Tk} {j : Jb} (h : GOK ts j) (hf : few j) : JOK (goJ (ts.getD j.1.toNat t0) j) := by
 have h1 := stepM_reps h.m
 have h2 := hf.1
 have h3 := hf.2
 refine ⟨h.ok.held, ?_, ?_⟩
 ·show (stepM _ _).2.2.1.length ≤ 100
  omega
 ·show (bif _ then stepM _ _ else _).2.2.1.length ≤ 100
  cases (stepX (codeJ (ts.getD j.1.toNat t0) j.2.2.2.1) j.2.2.2.2.1).1 == 11 with
  | true => rw [cond_true]; omega
  | false => rw [cond_false]; omega
theorem goes_eq {k : Nat} (hk : 1000 ≤ k) {now ap : Int} {ts : List Tk} {bs : List Bd5} {ru ha hi : Bool} {js : List Jb} {rows : List Int} {off : List Bool} {ev : List Ev} {j : Jb} (hL : lightL ts) (hj : GOK ts j) (hf : few j) (hr : rows.length = ts.length) (ho : off.length ≤ 900) (he : ev.length ≤ 10000) :
  S105 k now ap ts bs ru ha hi js TK0.1.1 TK0.1.2 TK0.2 rows off ev j.1 j.2.1 j.2.2.1 j.2.2.2.1 j.2.2.2.2.1.1 j.2.2.2.2.1.2.1.1 j.2.2.2.2.1.2.1.2.1 j.2.2.2.2.1.2.1.2.2.1 j.2.2.2.2.1.2.1.2.2.2.1 j.2.2.2.2.1.2.1.2.2.2.2.1 j.2.2.2.2.1.2.1.2.2.2.2.2.1 j.2.2.2.2.1.2.1.2.2.2.2.2.2.1 j.2.2.2.2.1.2.1.2.2.2.2.2.2.2 j.2.2.2.2.1.2.2.1 j.2.2.2.2.1.2.2.2 j.2.2.2.2.2.1.1 j.2.2.2.2.2.1.2.1.1 j.2.2.2.2.2.1.2.1.2.1 j.2.2.2.2.2.1.2.1.2.2.1 j.2.2.2.2.2.1.2.1.2.2.2.1 j.2.2.2.2.2.1.2.1.2.2.2.2.1 j.2.2.2.2.2.1.2.1.2.2.2.2.2.1 j.2.2.2.2.2.1.2.1.2.2.2.2.2.2.1 j.2.2.2.2.2.1.2.1.2.2.2.2.2.2.2 j.2.2.2.2.2.1.2.2.1 j.2.2.2.2.2.1.2.2.2 j.2.2.2.2.2.2.1 j.2.2.2.2.2.2.2 = some (((goesJ now (ts.getD j.1.toNat t0) j rows).2.1, ()), (now, ap, ts, bs, ru, ha, hi, js, TK0.1.1, TK0.1.2, TK0.2, (goesJ now (ts.getD j.1.toNat t0) j rows).2.2.2, off, ev ++ (goesJ now (ts.getD j.1.toNat t0) j rows).2.2.1, ()), flJ (goesJ now (ts.getD j.1.toNat t0) j rows).1, ()) := by
 have h := hj.task
 have hl := hL.1
 have ht := (hL.2 _ (getD_mem (z := t0) (l := ts) (i := j.1.toNat) (by omega))).1
 have hok := goJ_ok hj hf
 have hp := hj.m.plain
 have eg : S161 k (rd ts j.1 (0, 0, 0, [], [], [])) j = _ := S161_eq hk ht hj
 unfold S105
 rw [ix_ok h.1 h.2]
 refine (congrArg (fun x => Option.bind x _) eg).trans ?_
 simp only [Option.bind_some, Bool.not_true, cond_false]
 rw [beq_eq_false_iff_ne.2 hp.1, cond_false, beq_eq_false_iff_ne.2 hp.2, cond_false]
 unfold j105_12 goesJ
 cases e : (goJ (ts.getD j.1.toNat t0) j).2.2.2.2.1.2.2.2 with
 | true =>
  simp only [cond_true]
  have ed := done_eq (now := now) (ap := ap) (bs := bs) (ru := ru) (ha := ha) (hi := hi) (js := js) (rows := rows) (off := off) (ev := ev) (j := goJ (ts.getD j.1.toNat t0) j) hk hok h hr ho (by omega) he
  rw [e] at ed
  rw [ed, Option.bind_some]
  rfl
 | false =>
  simp only [cond_false, List.append_nil]
  unfold flJ
  rw [e]
def backJ (t : Tk) (j : Jb) : Jb :=
 bif (j.2.2.2.1 == 0) && decide ((t.2.2.2.2.1.length : Int) > 0) then (j.1, j.2.1, j.2.2.1, 1, newM j.2.2.1, newM j.2.2.1, [], j.2.2.2.2.2.2.2)
 else (j.1, j.2.1, j.2.2.1, j.2.2.2.1, j.2.2.2.2.2.1, j.2.2.2.2.2.1, [], j.2.2.2.2.2.2.2)
def hitJ (now : Int) (t : Tk) (j : Jb) (rows : List Int) : RunT :=
 bif j.2.2.2.1 == 2 then (j, true, [(now, 13, j.1, 0, 0, 0)], rows)
 else bif (j.2.2.2.1 == 0) && decide ((t.2.2.2.2.1.length : Int) > 0) then (backJ t j, false, [(now, 7, j.1, 0, 0, 0)], rows)
 else (backJ t j, false, [(now, 6, j.1, 0, 0, 0)], rows)
theorem S214_eq {k : Nat} {t : Tk} {j : Jb} (h : JOK j) : S214 k t j = some ((backJ t j, ()), ()) := by
 unfold S214 S99 backJ
 rw [S207_eq h, Option.bind_some]
 simp only [Option.bind_some]
 have hm := S210_eq (k := k) (m := j.2.2.2.2.2.1) (by have := h.kept; omega)
 rw [hm]
 simp only [Option.bind_some]
 cases j.2.2.2.1 == 0 with
 | false => rfl
 | true => rw [Bool.true_and, cond_true]; cases decide ((t.2.2.2.2.1.length : Int) > 0) <;> rfl
theorem S165_eq {k : Nat} (hk : 1000 ≤ k) {t : Tk} {j : Jb} (h : JOK j) (now : Int) (rows : List Int) : S165 k t j [] = some (((hitJ now t j rows).1, [], (bif j.2.2.2.1 == 2 then 13 else bif (j.2.2.2.1 == 0) && decide ((t.2.2.2.2.1.length : Int) > 0) then 7 else 6), ()), ()) := by
 unfold S165 hitJ
 rw [S214_eq h, Option.bind_some, all_nil hk, Option.bind_some, S81_eq hk h]
 cases hp : j.2.2.2.1 == 2 with
 | true => simp
 | false =>
  simp only [cond_false, Option.bind_some]
  unfold backJ
  cases hp0 : j.2.2.2.1 == 0 with
  | false => simp
  | true =>
   have : j.2.2.2.1 = 0 := by simpa using hp0
   cases decide ((t.2.2.2.2.1.length : Int) > 0) with
   | true => simp [this]
   | false => simp
theorem hits_eq {k : Nat} (hk : 1000 ≤ k) {now ap : Int} {ts : List Tk} {bs : List Bd5} {ru ha hi : Bool} {js : List Jb} {rows : List Int} {off : List Bool} {ev : List Ev} {j : Jb} (hj : JOK j) (h : 0 ≤ j.1 ∧ j.1 < (ts.length : Int)) (he : ev.length ≤ 10000) :
  S106 k now ap ts bs ru ha hi js TK0.1.1 TK0.1.2 TK0.2 rows off ev j.1 j.2.1 j.2.2.1 j.2.2.2.1 j.2.2.2.2.1.1 j.2.2.2.2.1.2.1.1 j.2.2.2.2.1.2.1.2.1 j.2.2.2.2.1.2.1.2.2.1 j.2.2.2.2.1.2.1.2.2.2.1 j.2.2.2.2.1.2.1.2.2.2.2.1 j.2.2.2.2.1.2.1.2.2.2.2.2.1 j.2.2.2.2.1.2.1.2.2.2.2.2.2.1 j.2.2.2.2.1.2.1.2.2.2.2.2.2.2 j.2.2.2.2.1.2.2.1 j.2.2.2.2.1.2.2.2 j.2.2.2.2.2.1.1 j.2.2.2.2.2.1.2.1.1 j.2.2.2.2.2.1.2.1.2.1 j.2.2.2.2.2.1.2.1.2.2.1 j.2.2.2.2.2.1.2.1.2.2.2.1 j.2.2.2.2.2.1.2.1.2.2.2.2.1 j.2.2.2.2.2.1.2.1.2.2.2.2.2.1 j.2.2.2.2.2.1.2.1.2.2.2.2.2.2.1 j.2.2.2.2.2.1.2.1.2.2.2.2.2.2.2 j.2.2.2.2.2.1.2.2.1 j.2.2.2.2.2.1.2.2.2 j.2.2.2.2.2.2.1 j.2.2.2.2.2.2.2 = some (((hitJ now (ts.getD j.1.toNat t0) j rows).2.1, ()), (now, ap, ts, bs, ru, ha, hi, js, TK0.1.1, TK0.1.2, TK0.2, rows, off, ev ++ (hitJ now (ts.getD j.1.toNat t0) j rows).2.2.1, ()), flJ (hitJ now (ts.getD j.1.toNat t0) j rows).1, ()) := by
 unfold S106
 rw [ix_ok h.1 h.2]
 have hl : S30 k (now, ap, ts, bs, ru, ha, hi, js, ((TK0.1.1, TK0.1.2), TK0.2), rows, off) = some (([], ()), ()) := locks_TK0 hk
 rw [hl, Option.bind_some]
 have eg : S165 k (rd ts j.1 (0, 0, 0, [], [], [])) j [] = _ := S165_eq hk hj now rows
 refine (congrArg (fun x => Option.bind x _) eg).trans ?_
 simp only [Option.bind_some]
 rw [S39b_eq hk, Option.bind_some]
 simp only
 rw [S100a_eq (by omega), Option.bind_some]
 simp only
 show _ = some (((hitJ now (rd ts j.1 (0, 0, 0, [], [], [])) j rows).2.1, ()), (now, ap, ts, bs, ru, ha, hi, js, TK0.1.1, TK0.1.2, TK0.2, rows, off, ev ++ (hitJ now (rd ts j.1 (0, 0, 0, [], [], [])) j rows).2.2.1, ()), flJ (hitJ now (rd ts j.1 (0, 0, 0, [], [], [])) j rows).1, ())
 generalize rd ts j.1 (0, 0, 0, [], [], []) = t
 have h1 : (hitJ now t j rows).1.1 = j.1 := by
  unfold hitJ backJ
  cases j.2.2.2.1 == 2 <;> cases (j.2.2.2.1 == 0) && decide ((t.2.2.2.2.1.length : Int) > 0) <;> rfl
 unfold flJ
 have h2 : ((bif j.2.2.2.1 == 2 then 13 else bif (j.2.2.2.1 == 0) && decide ((t.2.2.2.2.1.length : Int) > 0) then 7 else 6 : Int) == 13) = (hitJ now t j rows).2.1 := by
  unfold hitJ
  cases j.2.2.2.1 == 2 <;> cases (j.2.2.2.1 == 0) && decide ((t.2.2.2.2.1.length : Int) > 0) <;> rfl
 have h3 : [(now, (bif j.2.2.2.1 == 2 then 13 else bif (j.2.2.2.1 == 0) && decide ((t.2.2.2.2.1.length : Int) > 0) then 7 else 6 : Int), j.1, 0, 0, 0)] = (hitJ now t j rows).2.2.1 := by
  unfold hitJ
  cases j.2.2.2.1 == 2 <;> cases (j.2.2.2.1 == 0) && decide ((t.2.2.2.2.1.length : Int) > 0) <;> rfl
 rw [h1, h2, h3]
end Go.Proofs.YtmmagcjlfcicfaaGreat.Ab

/- A tick of a kernel without things: whose tick it is. -/
namespace Go.Proofs.YtmmagcjlfcicfaaGreat.Ab
open Go.RowKit
set_option linter.unusedSimpArgs false
set_option linter.unusedVariables false
abbrev Pk3 : Type := Int × Int × Int
abbrev pk0 : Pk3 := (0, 0, 0)
def keyJ (n : Int) (j : Jb) : Pk3 := (bif j.2.2.2.1 == 2 then n + n + j.1 else bif j.2.2.2.2.2.2.2 then j.1 else n + j.1, 1, j.1)
def cmpI (a b : Int) : Int := bif decide (a < b) then -1 else bif decide (a > b) then 1 else 0
def cmpK (p q : Pk3) : Int := bif cmpI p.1 q.1 != 0 then cmpI p.1 q.1 else bif cmpI p.2.1 q.2.1 != 0 then cmpI p.2.1 q.2.1 else cmpI p.2.2 q.2.2
theorem S206_eq (k : Nat) (a b : Int) : S206 k a b = some ((cmpI a b, ()), ()) := by
 unfold S206 S227 cmpI
 simp only [Option.bind_some, bne_self_eq_false, cond_false]
 cases decide (a < b) with
 | true => rfl
 | false => cases decide (a > b) <;> rfl
theorem S160_eq {k : Nat} (hk : 1000 ≤ k) (p q : Pk3) : S160 k p q = some ((cmpK p q, ()), ()) := by
 unfold S160 cmpK
 rw [S206_eq, Option.bind_some, S206_eq, Option.bind_some, S206_eq, Option.bind_some]
 simp only
 generalize cmpI p.1 q.1 = a
 generalize cmpI p.2.1 q.2.1 = b
 generalize cmpI p.2.2 q.2.2 = c
 unfold S205
 obtain ⟨k, rfl⟩ : ∃ m, k = m + 4 := ⟨k - 4, by omega⟩
 rw [L205_3_s, l205_3, bif_t (by simp), ix_ok (by omega) (by simp)]
 show Option.bind (bif a != 0 then _ else _) _ = _
 cases a != 0 with
 | true => rfl
 | false =>
  rw [cond_false, cond_false, show IntKind.i64.wrap ((0 : Int) + 1) = 1 from rfl, L205_3_s, l205_3, bif_t (by simp), ix_ok (by omega) (by simp)]
  show Option.bind (bif b != 0 then _ else _) _ = _
  cases b != 0 with
  | true => rfl
  | false =>
   rw [cond_false, cond_false, show IntKind.i64.wrap ((1 : Int) + 1) = 2 from rfl, L205_3_s, l205_3, bif_t (by simp), ix_ok (by omega) (by simp)]
   show Option.bind (bif c != 0 then _ else _) _ = _
   cases hc : c != 0 with
   | true => rfl
   | false =>
    have : c = 0 := by simpa using hc
    subst this
    rw [cond_false, show IntKind.i64.wrap ((2 : Int) + 1) = 3 from rfl, L205_3_s, l205_3, bif_f (by simp)]
    rfl
theorem low_nil {k : Nat} (hk : 1000 ≤ k) (s : List (Int × Int)) (t : Int) : S202 k s [] t = some ((0, false, ()), ()) := by
 obtain ⟨k, rfl⟩ : ∃ m, k = m + 1 := ⟨k - 1, by omega⟩
 unfold S202
 rw [L202_3_s, l202_3, bif_f (by simp)]
theorem S158_eq {k : Nat} (hk : 1000 ≤ k) {j : Jb} (h : JOK j) {n : Int} (hn : 0 ≤ n ∧ n ≤ 1000) (ht : 0 ≤ j.1 ∧ j.1 ≤ 1000) : S158 k j n [] = some ((keyJ n j, ()), ()) := by
 unfold S158 S201 S225 keyJ
 rw [h.held, low_nil hk, Option.bind_some]
 simp only [cond_false, Option.bind_some]
 cases j.2.2.2.1 == 2 with
 | true =>
  simp only [cond_true, Option.bind_some]
  rw [w64 (n := n + n) (by omega) (by omega), w64 (by omega) (by omega)]
 | false =>
  simp only [cond_false]
  cases j.2.2.2.2.2.2.2 with
  | true => rfl
  | false =>
   simp only [cond_false, Option.bind_some]
   rw [w64 (by omega) (by omega)]
theorem row_set {k : Nat} {i : Nat} (hi : i < 8) : S203 k 0 (i : Int) = some ((((2 ^ i : Nat) : Int), ()), ()) := by
 have : i = 0 ∨ i = 1 ∨ i = 2 ∨ i = 3 ∨ i = 4 ∨ i = 5 ∨ i = 6 ∨ i = 7 := by omega
 rcases this with rfl | rfl | rfl | rfl | rfl | rfl | rfl | rfl <;> (show _ = _; kernel_rfl)
theorem row_first {k : Nat} (hk : 1000 ≤ k) {i : Nat} (hi : i < 8) : S204 k ((2 ^ i : Nat) : Int) = some (((i : Int), true, ()), ()) := by
 have : i = 0 ∨ i = 1 ∨ i = 2 ∨ i = 3 ∨ i = 4 ∨ i = 5 ∨ i = 6 ∨ i = 7 := by omega
 obtain ⟨k, rfl⟩ : ∃ m, k = m + 1000 := ⟨k - 1000, by omega⟩
 rcases this with rfl | rfl | rfl | rfl | rfl | rfl | rfl | rfl <;> (show _ = _; kernel_rfl)
def minG (l : List Pk3) : Nat → Nat → Nat → Nat
 | 0, _, m => m
 | d + 1, i, m => minG l d (i + 1) (if cmpK (l.getD i pk0) (l.getD m pk0) < 0 then i else m)
theorem minG_lt {l : List Pk3} : ∀ (d i m : Nat), i + d = l.length → m < l.length → minG l d i m < l.length
 | 0, _, m, _, h => h
 | d + 1, i, m, h, hm => by
  rw [minG]
  exact minG_lt d (i + 1) _ (by omega) (by split <;> omega)
theorem L159_3_eq {k : Nat} (hk : 1000 ≤ k) {l : List Pk3} (hl : l.length ≤ 8) (hd : ∀ a b, a < l.length → b < l.length → a ≠ b → cmpK (l.getD a pk0) (l.getD b pk0) ≠ 0) : ∀ (d i j m : Nat), i + d = l.length → d < j → m < i →
  L159_3 k j (l.getD m pk0).1 (l.getD m pk0).2.1 (l.getD m pk0).2.2 ((2 ^ m : Nat) : Int) l (l.length : Int) (i : Int) = some ((((minG l d i m : Nat) : Int), ()), ())
 | 0, i, j, m, h, hjj, hm => by
  obtain ⟨j', rfl⟩ : ∃ j', j = j' + 1 := ⟨j - 1, by omega⟩
  rw [L159_3_s, l159_3, bif_f (by omega), row_first hk (by omega)]
  rfl
 | d + 1, i, j, m, h, hjj, hm => by
  obtain ⟨j', rfl⟩ : ∃ j', j = j' + 1 := ⟨j - 1, by omega⟩
  have hi : i < l.length := by omega
  have hne := hd i m hi (by omega) (by omega)
  rw [L159_3_s, l159_3, bif_t (by omega), ix_nat hi, rd_nat, show ((l.getD m pk0).1, (l.getD m pk0).2.1, (l.getD m pk0).2.2) = l.getD m pk0 from rfl, S160_eq hk, Option.bind_some, minG, w64_nat (by omega)]
  simp only
  by_cases hc : cmpK (l.getD i pk0) (l.getD m pk0) < 0
  ·rw [bif_t hc, if_pos hc, row_set (by omega), Option.bind_some]
   exact L159_3_eq hk hl hd d (i + 1) j' i (by omega) (by omega) (by omega)
  ·rw [bif_f hc, if_neg hc, beq_eq_false_iff_ne.2 hne, cond_false]
   exact L159_3_eq hk hl hd d (i + 1) j' m (by omega) (by omega) (by omega)
theorem cmpK_self (p : Pk3) : cmpK p p = 0 := by
 unfold cmpK cmpI
 simp
theorem S159_eq {k : Nat} (hk : 1000 ≤ k) {l : List Pk3} (hl : l.length ≤ 8) (h0 : 0 < l.length) (hd : ∀ a b, a < l.length → b < l.length → a ≠ b → cmpK (l.getD a pk0) (l.getD b pk0) ≠ 0) : S159 k l = some ((((minG l l.length 0 0 : Nat) : Int), ()), ()) := by
 unfold S159
 obtain ⟨d, hdd⟩ : ∃ d, l.length = d + 1 := ⟨l.length - 1, by omega⟩
 obtain ⟨j, hj⟩ : ∃ j, k = j + 1 := ⟨k - 1, by omega⟩
 rw [ix_ok (by omega) (by omega)]
 conv => lhs; rw [show ∀ a b c r l n i, L159_3 k k a b c r l n i = L159_3 k (j + 1) a b c r l n i from fun a b c r l n i => by rw [← hj]]
 rw [L159_3_s, l159_3, bif_t (by omega), ix_ok (by omega) (by omega)]
 show Option.bind (S160 k (l.getD 0 pk0) (l.getD 0 pk0)) _ = _
 rw [S160_eq hk, cmpK_self, Option.bind_some]
 simp only [beq_self_eq_true, cond_true]
 rw [bif_f (by omega)]
 have := row_set (k := k) (i := 0) (by omega)
 rw [show S203 k 0 0 = _ from this, Option.bind_some, hdd, minG, if_neg (by rw [cmpK_self]; omega)]
 have e := L159_3_eq hk hl hd d 1 j 0 (by omega) (by omega) (by omega)
 rw [hdd] at e
 exact e
theorem L104_3_eq {k : Nat} (hk : 1000 ≤ k) {n : Int} (hn : 0 ≤ n ∧ n ≤ 1000) {js : List Jb} (hl : js.length ≤ 900) (hj : ∀ j ∈ js, JOK j ∧ 0 ≤ j.1 ∧ j.1 ≤ 1000) : ∀ (d i j : Nat), i + d = js.length → d < j →
  L104_3 k j n [] 0 false ((js.take i).map (keyJ n)) js (js.length : Int) (i : Int) = L104_8 k k 0 false (js.map (keyJ n)) 0
 | 0, i, j, h, hjj => by
  obtain ⟨j', rfl⟩ : ∃ j', j = j' + 1 := ⟨j - 1, by omega⟩
  rw [L104_3_s, l104_3, bif_f (by omega), List.take_of_length_le (by omega)]
 | d + 1, i, j, h, hjj => by
  obtain ⟨j', rfl⟩ : ∃ j', j = j' + 1 := ⟨j - 1, by omega⟩
  have hi : i < js.length := by omega
  have hh := hj _ (getD_mem (z := j0) hi)
  rw [L104_3_s, l104_3, bif_t (by omega), ix_nat hi, rd_nat, show js.getD i (0, 0, 0, 0, (0, prep (α := Int) 8 0, [], false), (0, prep (α := Int) 8 0, [], false), [], false) = js.getD i j0 from rfl, S158_eq hk hh.1 hn hh.2, Option.bind_some, ap_ok (by simp; omega), w64_nat (by omega)]
  have e : (js.take i).map (keyJ n) ++ [keyJ n (js.getD i j0)] = (js.take (i + 1)).map (keyJ n) := by
   rw [List.take_succ_eq_append_getElem hi, List.map_append, getD_in hi]; rfl
  rw [e]
  exact L104_3_eq hk hn hl hj d (i + 1) j' (by omega) (by omega)
def nextM (js : List Jb) (n : Int) : Nat := minG (js.map (keyJ n)) js.length 0 0
def distK (js : List Jb) (n : Int) : Prop := ∀ a b, a < js.length → b < js.length → a ≠ b → cmpK (keyJ n (js.getD a j0)) (keyJ n (js.getD b j0)) ≠ 0
theorem map_getD {α β : Type} {f : α → β} {l : List α} {i : Nat} (z : α) (w : β) (h : i < l.length) : (l.map f).getD i w = f (l.getD i z) := by
 rw [getD_in (by rw [List.length_map]; exact h), getD_in h, List.getElem_map]
theorem S104_eq {k : Nat} (hk : 1000 ≤ k) {n : Int} (hn : 0 ≤ n ∧ n ≤ 1000) {js : List Jb} (hl : js.length ≤ 8) (hj : ∀ j ∈ js, JOK j ∧ 0 ≤ j.1 ∧ j.1 ≤ 1000) (hd : distK js n) :
  S104 k js n [] = some ((((nextM js n : Nat) : Int), !(js.isEmpty), ()), ()) := by
 unfold S104
 have e := L104_3_eq hk hn (by omega) hj js.length 0 k (by omega) (by omega)
 rw [List.take_zero, List.map_nil] at e
 refine e.trans ?_
 have hlen : (js.map (keyJ n)).length = js.length := List.length_map _
 by_cases h0 : js.length = 0
 ·have : js = [] := List.eq_nil_of_length_eq_zero h0
  subst this
  obtain ⟨k, rfl⟩ : ∃ m, k = m + 1 := ⟨k - 1, by omega⟩
  rw [L104_8_s, l104_8, bif_f (by simp)]
  rfl
 ·obtain ⟨j, hjk⟩ : ∃ j, k = j + 2 := ⟨k - 2, by omega⟩
  have hf := S159_eq hk (l := js.map (keyJ n)) (by omega) (by omega) (fun a b ha hb hab => by
   rw [map_getD j0 _ (by omega), map_getD j0 _ (by omega)]
   exact hd a b (by omega) (by omega) hab)
  have hsub : sub (js.map (keyJ n)) 0 (mn (IntKind.i64.wrap (0 + 64)) ((js.map (keyJ n)).length : Int)) = js.map (keyJ n) := by
   have hm : mn (IntKind.i64.wrap (0 + 64)) ((js.map (keyJ n)).length : Int) = (js.length : Int) := by
    rw [mn_eq, w64 (by omega) (by omega)]; omega
   rw [hm]
   unfold sub
   rw [List.take_of_length_le (by rw [hlen]; omega)]; rfl
  have hmin := minG_lt (l := js.map (keyJ n)) js.length 0 0 (by omega) (by omega)
  have hem : js.isEmpty = false := by cases js with | nil => simp at h0 | cons a l => rfl
  conv => lhs; rw [show ∀ a b c d, L104_8 k k a b c d = L104_8 k (j + 1 + 1) a b c d from fun a b c d => by rw [← hjk]]
  rw [L104_8_s, l104_8, bif_t (by omega), sx_ok (by omega) (by rw [mn_eq, w64 (by omega) (by omega)]; omega) (by rw [mn_eq]; omega), hsub, hf, Option.bind_some]
  simp only [Bool.not_false, cond_true]
  rw [L104_8_s, l104_8, bif_f (by rw [w64 (by omega) (by omega)]; omega), hlen, hem, w64 (n := 0 + ((minG (js.map (keyJ n)) js.length 0 0 : Nat) : Int)) (by omega) (by omega), Int.zero_add]
  rfl
end Go.Proofs.YtmmagcjlfcicfaaGreat.Ab

/- A tick of a kernel without things, whole. -/
namespace Go.Proofs.YtmmagcjlfcicfaaGreat.Ab
open Go.RowKit
set_option linter.unusedSimpArgs false
set_option linter.unusedVariables false
theorem cmpI_zero {a b : Int} : cmpI a b = 0 ↔ a = b := by
 unfold cmpI
 by_cases h : a < b
 ·rw [bif_t h]; constructor <;> intro h2 <;> omega
 ·rw [bif_f h]
  by_cases h3 : a > b
  ·rw [bif_t h3]; constructor <;> intro h2 <;> omega
  ·rw [bif_f h3]; constructor
   ·intro _; omega
   ·intro _; rfl
theorem cmpK_zero {p q : Pk3} (h : cmpK p q = 0) : p.2.2 = q.2.2 := by
 unfold cmpK at h
 cases h1 : cmpI p.1 q.1 != 0 with
 | true => rw [h1, cond_true] at h; simp [h] at h1
 | false =>
  rw [h1, cond_false] at h
  cases h2 : cmpI p.2.1 q.2.1 != 0 with
  | true => rw [h2, cond_true] at h; simp [h] at h2
  | false => rw [h2, cond_false] at h; exact cmpI_zero.1 h
def rising (js : List Jb) : Prop := js.Pairwise (fun a b => a.1 < b.1)
theorem rising_ne {js : List Jb} (h : rising js) {a b : Nat} (ha : a < js.length) (hb : b < js.length) (hab : a ≠ b) : (js.getD a j0).1 ≠ (js.getD b j0).1 := by
 rw [getD_in ha, getD_in hb]
 have := List.pairwise_iff_getElem.1 h
 rcases Nat.lt_or_gt_of_ne hab with hl | hl
 ·have := this a b ha hb hl; omega
 ·have := this b a hb ha hl; omega
theorem rising_dist {js : List Jb} (h : rising js) (n : Int) : distK js n := fun a b ha hb hab e => rising_ne h ha hb hab (cmpK_zero e)
theorem rising_len : ∀ {js : List Jb} {lo n : Int}, rising js → (∀ j ∈ js, lo ≤ j.1 ∧ j.1 < n) → lo ≤ n → (js.length : Int) ≤ n - lo
 | [], lo, n, _, _, h => by simp; omega
 | a :: js, lo, n, h, hb, hl => by
  have h1 := List.pairwise_cons.1 h
  have ha := hb a List.mem_cons_self
  have := rising_len (lo := a.1 + 1) h1.2 (fun j hj => ⟨by have := h1.1 j hj; omega, (hb j (List.mem_cons_of_mem _ hj)).2⟩) (by omega)
  simp only [List.length_cons]; omega
theorem endS_fold (now : Int) (ts : List Tk) : ∀ (js : List Jb) (s : EndT), ∃ l, l.Sublist js ∧ (js.foldl (endS now ts) s).1 = s.1 ++ l ∧ (js.foldl (endS now ts) s).2.2.1.length = s.2.2.1.length ∧ (js.foldl (endS now ts) s).2.2.2.1.length = s.2.2.2.1.length ∧ (js.foldl (endS now ts) s).2.1.length ≤ s.2.1.length + 3 * js.length
 | [], s => ⟨[], List.Sublist.refl _, by simp, rfl, rfl, by simp⟩
 | j :: js, s => by
  rw [List.foldl_cons]
  obtain ⟨l, h1, h2, h3, h4, h5⟩ := endS_fold now ts js (endS now ts s j)
  have hw := missW_len s.2.2.1 s.2.2.2.1 j.1.toNat
  have hm := missE_len now j.1 (missW s.2.2.1 s.2.2.2.1 j.1.toNat).2
  unfold endS at h2 h3 h4 h5 ⊢
  cases hc : IntKind.i64.wrap (now - j.2.1) != (ts.getD j.1.toNat t0).2.2.1 with
  | true =>
   simp only [hc, cond_true] at h2 h3 h4 h5 ⊢
   exact ⟨j :: l, h1.cons_cons j, by rw [h2]; simp, h3, h4, by simp only [List.length_cons]; omega⟩
  | false =>
   cases hp : j.2.2.2.1 == 2 with
   | true =>
    simp only [hc, hp, cond_true, cond_false] at h2 h3 h4 h5 ⊢
    exact ⟨l, h1.cons j, h2, h3, h4, by simp only [List.length_append, List.length_cons, List.length_nil] at h5 ⊢; omega⟩
   | false =>
    simp only [hc, hp, cond_false] at h2 h3 h4 h5 ⊢
    exact ⟨l, h1.cons j, h2, by omega, by omega, by simp only [List.length_append, List.length_cons] at h5 ⊢; omega⟩
def runsM (now : Int) (ts : List Tk) (js : List Jb) (rows : List Int) (hi : Bool) : List Jb × List Ev × List Int :=
 let i := nextM js (ts.length : Int)
 let r := bif hi then hitJ now (ts.getD (js.getD i j0).1.toNat t0) (js.getD i j0) rows else goesJ now (ts.getD (js.getD i j0).1.toNat t0) (js.getD i j0) rows
 ((bif r.2.1 then js.take i ++ js.drop (i + 1) else js.set i r.1), (now, 2, (js.getD i j0).1, 0, 0, 0) :: r.2.2.1, r.2.2.2)
theorem del_set {k : Nat} {js : List Jb} {i : Nat} {x : Jb} (h : i < js.length) (hl : js.length ≤ 900) : S50 k (upd js (i : Int) x) (i : Int) (IntKind.i64.wrap ((i : Int) + 1)) = some ((js.take i ++ js.drop (i + 1), ()), ()) := by
 unfold S50 delSem
 rw [w64_nat (by omega), upd_nat]
 refine (if_pos ?_).trans ?_
 ·simp only [Bool.and_eq_true]
  refine ⟨decide_eq_true (by show (0 : Int) ≤ (i : Int); omega), decide_eq_true (by show (i : Int) ≤ ((i + 1 : Nat) : Int); omega), decide_eq_true ?_⟩
  show ((i + 1 : Nat) : Int) ≤ ((js.set i x).length : Int)
  rw [List.length_set]; omega
 ·show some (((js.set i x).take (i : Int).toNat ++ (js.set i x).drop ((i + 1 : Nat) : Int).toNat, ()), ()) = _
  rw [Int.toNat_natCast, Int.toNat_natCast, List.take_set_of_le (by omega), List.drop_set_of_lt (by omega)]
theorem S59_eq {k : Nat} (hk : 1000 ≤ k) {now ap : Int} {ts : List Tk} {bs : List Bd5} {ru ha hi : Bool} {js : List Jb} {rows : List Int} {off : List Bool} {ev : List Ev} (hL : lightL ts) (h8 : ts.length ≤ 8) (hj : ∀ j ∈ js, GOK ts j ∧ few j) (hris : rising js) (hr : rows.length = ts.length) (ho : off.length ≤ 900) (he : ev.length ≤ 5000) :
  S59 k now ap ts bs ru ha hi js TK0.1.1 TK0.1.2 TK0.2 rows off ev = some ((), (now, ap, ts, bs, ru, ha, hi, (bif ha || js.isEmpty then js else (runsM now ts js rows hi).1), TK0.1.1, TK0.1.2, TK0.2, (bif ha || js.isEmpty then rows else (runsM now ts js rows hi).2.2), off, ev ++ (bif ha || js.isEmpty then [] else (runsM now ts js rows hi).2.1), ()), ()) := by
 have hlen : (js.length : Int) ≤ (ts.length : Int) - 0 := rising_len hris (fun j h => (hj j h).1.task) (by omega)
 unfold S59
 have hl : S30 k (now, ap, ts, bs, ru, ha, hi, js, ((TK0.1.1, TK0.1.2), TK0.2), rows, off) = some (([], ()), ()) := locks_TK0 hk
 rw [hl, Option.bind_some]
 simp only
 rw [S104_eq hk ⟨by omega, by omega⟩ (by omega) (fun j h => ⟨(hj j h).1.ok, by have := (hj j h).1.task; omega⟩) (rising_dist hris _), Option.bind_some]
 simp only
 cases ha with
 | true => simp
 | false =>
  cases hem : js.isEmpty with
  | true => simp
  | false =>
   have h0 : 0 < js.length := by cases js with | nil => simp at hem | cons a l => simp
   have hmin : nextM js (ts.length : Int) < js.length := by
    have := minG_lt (l := js.map (keyJ (ts.length : Int))) js.length 0 0 (by simp) (by simpa using h0)
    simpa [nextM] using this
   have hin := hj _ (getD_mem (z := j0) hmin)
   simp only [Bool.not_false, Bool.not_true, cond_false, Bool.or_false]
   rw [ix_nat hmin, rd_nat, show js.getD (nextM js (ts.length : Int)) (0, 0, 0, 0, (0, prep (α := Int) 8 0, [], false), (0, prep (α := Int) 8 0, [], false), [], false) = js.getD (nextM js (ts.length : Int)) j0 from rfl, S100a_eq (by omega), Option.bind_some]
   simp only
   unfold runsM
   simp only
   generalize nextM js (ts.length : Int) = i at hmin hin ⊢
   generalize js.getD i j0 = j at hin ⊢
   have hevl : (ev ++ [(now, ((2 : Int), j.1, (0 : Int), (0 : Int), (0 : Int)))]).length ≤ 10000 := by simp; omega
   have tail : ∀ r : RunT, (ix js (i : Int) (bif r.2.1 then (S50 k (upd js (i : Int) r.1) (i : Int) (IntKind.i64.wrap ((i : Int) + 1))).bind (fun q => some ((), (now, ap, ts, bs, ru, false, hi, q.1.1, TK0.1.1, TK0.1.2, TK0.2, r.2.2.2, off, (ev ++ [(now, ((2 : Int), j.1, (0 : Int), (0 : Int), (0 : Int)))]) ++ r.2.2.1, ()), ())) else some ((), (now, ap, ts, bs, ru, false, hi, upd js (i : Int) r.1, TK0.1.1, TK0.1.2, TK0.2, r.2.2.2, off, (ev ++ [(now, ((2 : Int), j.1, (0 : Int), (0 : Int), (0 : Int)))]) ++ r.2.2.1, ()), ())) : Option (Unit × (Int × Int × List Tk × List Bd5 × Bool × Bool × Bool × List Jb × List Int × List Bool × List Thg × List Int × List Bool × List Ev × Unit) × Unit)) =
     some ((), (now, ap, ts, bs, ru, false, hi, (bif r.2.1 then js.take i ++ js.drop (i + 1) else js.set i r.1), TK0.1.1, TK0.1.2, TK0.2, r.2.2.2, off, ev ++ ((now, 2, j.1, 0, 0, 0) :: r.2.2.1), ()), ()) := fun r => by
    rw [ix_nat hmin, del_set hmin (by omega), Option.bind_some, upd_nat, List.append_assoc]
    cases r.2.1 <;> rfl
   cases hi with
   | true =>
    simp only [cond_true]
    rw [hits_eq hk hin.1.ok hin.1.task hevl, Option.bind_some]
    have hr2 : (hitJ now (ts.getD j.1.toNat t0) j rows).2.2.2 = rows := by
     unfold hitJ
     cases j.2.2.2.1 == 2 <;> cases (j.2.2.2.1 == 0) && decide (((ts.getD j.1.toNat t0).2.2.2.2.1.length : Int) > 0) <;> rfl
    have ht := tail (hitJ now (ts.getD j.1.toNat t0) j rows)
    rw [hr2] at ht
    rw [hr2]
    exact ht
   | false =>
    simp only [cond_false]
    rw [goes_eq hk hL hin.1 hin.2 hr ho hevl, Option.bind_some]
    exact tail (goesJ now (ts.getD j.1.toNat t0) j rows)
def tickM (K : Kn) : Kn × List Ev :=
 bif K.2.2.2.2.1 && !K.2.2.2.2.2.1 then
  let E := endsM K.1 K.2.2.1 K.2.2.2.2.2.2.2.1 K.2.2.2.2.2.2.2.2.2.1 K.2.2.2.2.2.2.2.2.2.2 K.2.2.2.2.2.1
  let js := E.1.map (promJ K.1 K.2.2.2.1)
  let R := bif E.2.2.2.2 || js.isEmpty then (js, [], E.2.2.1) else runsM K.1 K.2.2.1 js E.2.2.1 K.2.2.2.2.2.2.1
  ((IntKind.i64.wrap (K.1 + 1), K.2.1, K.2.2.1, K.2.2.2.1, K.2.2.2.2.1, E.2.2.2.2, false, R.1, K.2.2.2.2.2.2.2.2.1, R.2.2, E.2.2.2.1), E.2.1 ++ R.2.1)
 else ((IntKind.i64.wrap (K.1 + 1), K.2.1, K.2.2.1, K.2.2.2.1, K.2.2.2.2.1, K.2.2.2.2.2.1, false, K.2.2.2.2.2.2.2), [])
structure KI (K : Kn) : Prop where
 tab : K.2.2.2.2.2.2.2.2.1 = TK0
 tasks : lightL K.2.2.1
 few8 : K.2.2.1.length ≤ 8
 bounds : K.2.2.2.1.length = K.2.2.1.length
 rows : K.2.2.2.2.2.2.2.2.2.1.length = K.2.2.1.length
 off : K.2.2.2.2.2.2.2.2.2.2.length = K.2.2.1.length
 job : ∀ j ∈ K.2.2.2.2.2.2.2.1, GOK K.2.2.1 j ∧ few j
 ris : rising K.2.2.2.2.2.2.2.1
theorem KI.len {K : Kn} (h : KI K) : K.2.2.2.2.2.2.2.1.length ≤ 8 := by
 have := rising_len h.ris (fun j hj => (h.job j hj).1.task) (by omega)
 have := h.few8
 omega
theorem KI.kok {K : Kn} (h : KI K) : KOK K := ⟨h.tab, h.tasks, by have := h.bounds; have := h.few8; omega, by have := h.len; omega, fun j hj => (h.job j hj).1.ok, by have := h.rows; have := h.few8; omega, by have := h.off; have := h.few8; omega⟩
theorem promJ_task (now : Int) (bs : List Bd5) (j : Jb) : (promJ now bs j).1 = j.1 ∧ (promJ now bs j).2.1 = j.2.1 ∧ (promJ now bs j).2.2.1 = j.2.2.1 ∧ (promJ now bs j).2.2.2.1 = j.2.2.2.1 ∧ (promJ now bs j).2.2.2.2.1 = j.2.2.2.2.1 ∧ (promJ now bs j).2.2.2.2.2.1 = j.2.2.2.2.2.1 ∧ (promJ now bs j).2.2.2.2.2.2.1 = j.2.2.2.2.2.2.1 := by
 unfold promJ
 cases j.2.2.2.1 != 2 with
 | false => simp
 | true => rw [cond_true]; cases decide (IntKind.i64.wrap (now - j.2.1) ≥ (bs.getD j.1.toNat (prep (α := Int) 5 0)).2.2.2.2) <;> simp
theorem promJ_ok {ts : List Tk} {now : Int} {bs : List Bd5} {j : Jb} (h : GOK ts j ∧ few j) : GOK ts (promJ now bs j) ∧ few (promJ now bs j) := by
 obtain ⟨e1, e2, e3, e4, e5, e6, e7⟩ := promJ_task now bs j
 refine ⟨⟨⟨by rw [e7]; exact h.1.ok.held, by rw [e5]; exact h.1.ok.m, by rw [e6]; exact h.1.ok.kept⟩, by rw [e1]; exact h.1.task, by rw [e4]; exact h.1.phase, by rw [e1, e4, e5]; exact h.1.m⟩, ?_⟩
 unfold few
 rw [e5, e6]; exact h.2
theorem rising_map {f : Jb → Jb} (hf : ∀ j, (f j).1 = j.1) {js : List Jb} (h : rising js) : rising (js.map f) := by
 unfold rising
 rw [List.pairwise_map]
 exact List.Pairwise.imp (fun {a b} hab => by rw [hf, hf]; exact hab) h
theorem S23_eq {k : Nat} (hk : 1000 ≤ k) {K : Kn} (h : KI K) : S23 k K = some (((tickM K).1, (tickM K).2, ()), ()) := by
 have hkok := h.kok
 have hl8 := h.len
 obtain ⟨now, ap, ts, bs, ru, ha, hi, js, T, rows, off⟩ := K
 have e : T = TK0 := h.tab
 subst e
 have h1 : lightL ts := h.tasks
 have h2 : ts.length ≤ 8 := h.few8
 have h3 : bs.length = ts.length := h.bounds
 have h4 : rows.length = ts.length := h.rows
 have h5 : off.length = ts.length := h.off
 have h6 : ∀ j ∈ js, GOK ts j ∧ few j := h.job
 have h7 : rising js := h.ris
 have h8 : js.length ≤ 8 := hl8
 unfold S23 tickM
 rw [S34_eq hk hkok, Option.bind_some]
 simp only
 cases ru with
 | false => rfl
 | true =>
  cases ha with
  | true => rfl
  | false =>
   simp only [cond_true, Bool.not_false, Bool.and_self]
   rw [S56_eq hk (by omega) (fun j hj => (h6 j hj).1.task) (by omega) h4 h5, Option.bind_some]
   simp only
   obtain ⟨l, g1, g2, g3, g4, g5⟩ := endS_fold now ts js ([], [], rows, off, false)
   rw [show js.foldl (endS now ts) ([], [], rows, off, false) = endsM now ts js rows off false from rfl] at g2 g3 g4 g5
   simp only [List.nil_append, List.length_nil] at g2 g3 g4 g5
   generalize endsM now ts js rows off false = E at g2 g3 g4 g5 ⊢
   have hE : ∀ j ∈ E.1, GOK ts j ∧ few j := fun j hj => h6 j (g1.subset (by rw [← g2]; exact hj))
   have hEr : rising E.1 := by rw [g2]; exact List.Pairwise.sublist g1 h7
   have hEl : E.1.length ≤ 8 := by rw [g2]; have := g1.length_le; omega
   rw [S57_eq hk (by omega) (fun j hj => by rw [h3]; exact (hE j hj).1.task), Option.bind_some]
   simp only
   rw [S58_eq hk, Option.bind_some]
   simp only
   rw [S59_eq hk h1 h2 (fun j hj => by
    obtain ⟨x, hx, rfl⟩ := List.mem_map.1 hj
    exact promJ_ok (hE x hx)) (rising_map (fun j => (promJ_task now bs j).1) hEr) (by omega) (by omega) (by omega), Option.bind_some]
   simp only
   cases E.2.2.2.2 || (E.1.map (promJ now bs)).isEmpty <;> rfl
end Go.Proofs.YtmmagcjlfcicfaaGreat.Ab

/- A kernel without things: one is released. -/
namespace Go.Proofs.YtmmagcjlfcicfaaGreat.Ab
open Go.RowKit
set_option linter.unusedSimpArgs false
set_option linter.unusedVariables false
def posJ (p : Int) : List Jb → Nat
 | [] => 0
 | j :: l => bif decide (j.1 < p) then posJ p l + 1 else 0
theorem posJ_unique (p : Int) : ∀ (l : List Jb) (n : Nat), n ≤ l.length → (∀ a, a < n → (l.getD a j0).1 < p) → (n < l.length → ¬ (l.getD n j0).1 < p) → posJ p l = n
 | [], n, h, _, _ => by simp at h; rw [h]; rfl
 | x :: l, 0, _, _, h2 => by
  have h3 : ¬ x.1 < p := h2 (by simp)
  rw [posJ, decide_eq_false h3, cond_false]
 | x :: l, n + 1, h, h1, h2 => by
  have h3 : x.1 < p := h1 0 (by omega)
  rw [posJ, decide_eq_true h3, cond_true, posJ_unique p l n (by simpa using h) (fun a ha => h1 (a + 1) (by omega)) (fun hn => h2 (by simpa using hn))]
theorem posJ_le (p : Int) : ∀ l : List Jb, posJ p l ≤ l.length
 | [] => Nat.le_refl _
 | x :: l => by
  rw [posJ]
  cases decide (x.1 < p) with
  | true => rw [cond_true, List.length_cons]; have := posJ_le p l; omega
  | false => rw [cond_false]; omega
theorem half16 : ∀ n : Fin 17, IntKind.i64.wrap (ishr .u64 (IntKind.u64.wrap (IntKind.i64.wrap ((n.1 : Nat) : Int))) 1) = ((n.1 / 2 : Nat) : Int) := by decide
theorem half_nat {a b : Nat} (h : a + b ≤ 16) : IntKind.i64.wrap (ishr .u64 (IntKind.u64.wrap (IntKind.i64.wrap ((a : Int) + (b : Int)))) 1) = (((a + b) / 2 : Nat) : Int) := by
 have := half16 ⟨a + b, by omega⟩
 simpa using this
theorem L95_3_eq {k : Nat} {js : List Jb} {p : Int} (hl : js.length ≤ 8) (hp : 0 ≤ p ∧ p ≤ 1000) (ht : ∀ j ∈ js, 0 ≤ j.1 ∧ j.1 ≤ 1000) (hr : rising js) : ∀ (m fu a b : Nat), b - a ≤ m → m < fu → a ≤ b → b ≤ js.length → (∀ c, c < a → (js.getD c j0).1 < p) → (∀ c, b ≤ c → c < js.length → p ≤ (js.getD c j0).1) →
  L95_3 k fu js p (js.length : Int) (a : Int) (b : Int) = some ((((posJ p js : Nat) : Int), decide (posJ p js < js.length) && (js.getD (posJ p js) j0).1 == p, ()), ())
 | m, fu, a, b, hm, hf, hab, hb, h1, h2 => by
  obtain ⟨f, rfl⟩ : ∃ f, fu = f + 1 := ⟨fu - 1, by omega⟩
  rw [L95_3_s, l95_3]
  by_cases h : a < b
  ·obtain ⟨m', rfl⟩ : ∃ m', m = m' + 1 := ⟨m - 1, by omega⟩
   have hc : (a + b) / 2 < js.length := by omega
   have hb2 := ht _ (getD_mem (z := j0) hc)
   rw [bif_t (by omega), half_nat (by omega), ix_nat hc, rd_nat, show js.getD ((a + b) / 2) (0, 0, 0, 0, (0, prep (α := Int) 8 0, [], false), (0, prep (α := Int) 8 0, [], false), [], false) = js.getD ((a + b) / 2) j0 from rfl]
   unfold S96
   rw [Option.bind_some, w64 (by omega) (by omega)]
   simp only
   have hmono : ∀ x y, x < y → y < js.length → (js.getD x j0).1 < (js.getD y j0).1 := fun x y hxy hy => by
    rw [getD_in (by omega), getD_in hy]; exact List.pairwise_iff_getElem.1 hr x y (by omega) hy hxy
   by_cases e : (js.getD ((a + b) / 2) j0).1 - p < 0
   ·rw [bif_t e, w64_nat (by omega)]
    exact L95_3_eq hl hp ht hr m' f ((a + b) / 2 + 1) b (by omega) (by omega) (by omega) hb (fun c hc2 => by
     by_cases e2 : c = (a + b) / 2
     ·subst e2; omega
     ·have := hmono c ((a + b) / 2) (by omega) hc; omega) h2
   ·rw [bif_f e]
    exact L95_3_eq hl hp ht hr m' f a ((a + b) / 2) (by omega) (by omega) (by omega) (by omega) h1 (fun c hc2 hc3 => by
     by_cases e2 : c = (a + b) / 2
     ·subst e2; omega
     ·have := hmono ((a + b) / 2) c (by omega) hc3; omega)
  ·have hba : b = a := by omega
   subst hba
   have hpos : posJ p js = b := posJ_unique p js b hb h1 (fun hn => by have := h2 b (by omega) hn; omega)
   rw [bif_f (by omega), hpos]
   by_cases h3 : b < js.length
   ·have hb2 := ht _ (getD_mem (z := j0) h3)
    rw [bif_t (by omega), ix_nat h3, rd_nat, show js.getD b (0, 0, 0, 0, (0, prep (α := Int) 8 0, [], false), (0, prep (α := Int) 8 0, [], false), [], false) = js.getD b j0 from rfl]
    unfold S96
    rw [Option.bind_some, w64 (by omega) (by omega), decide_eq_true h3, Bool.true_and]
    simp only
    congr 3
    by_cases e : (js.getD b j0).1 = p
    ·rw [e]; simp
    ·rw [beq_eq_false_iff_ne.2 e, beq_eq_false_iff_ne.2 (by omega)]
   ·rw [bif_f (by omega), decide_eq_false h3]; rfl
def newJ (p now a : Int) : Jb := (p, now, a, 0, newM a, newM a, [], false)
def withJ (K : Kn) (js : List Jb) : Kn := (K.1, K.2.1, K.2.2.1, K.2.2.2.1, K.2.2.2.2.1, K.2.2.2.2.2.1, K.2.2.2.2.2.2.1, js, K.2.2.2.2.2.2.2.2)
def relM (K : Kn) (p a : Int) : Kn × List Ev × Int :=
 bif !K.2.2.2.2.1 then (K, [], 8)
 else bif K.2.2.2.2.2.1 then (K, [], 17)
 else bif decide (p < 0) || decide (p ≥ (K.2.2.1.length : Int)) then (K, [], 3)
 else bif K.2.2.2.2.2.2.2.2.2.2.getD p.toNat false then (K, [], 6)
 else
  let js := K.2.2.2.2.2.2.2.1
  let i := posJ p js
  bif decide (i < js.length) && (js.getD i j0).1 == p then
   (bif (js.getD i j0).2.2.2.1 != 2 then (K, [], 5)
       else (withJ K (js.take i ++ [newJ p K.1 a] ++ js.drop (i + 1)), [(K.1, 13, p, 0, 0, 0), (K.1, 1, p, 0, a, 0)], 0))
  else (withJ K (js.take i ++ [newJ p K.1 a] ++ js.drop i), [(K.1, 1, p, 0, a, 0)], 0)
theorem ins_at {k : Nat} {js : List Jb} {i : Nat} {x : Jb} (h : i ≤ js.length) (hl : js.length ≤ 900) : S51 k js (i : Int) [x] = some ((js.take i ++ [x] ++ js.drop i, ()), ()) := by
 unfold S51 insSem
 refine if_pos ?_
 simp only [Bool.and_eq_true]
 refine ⟨decide_eq_true (Int.natCast_nonneg i), decide_eq_true (Int.ofNat_le.2 h), decide_eq_true ?_⟩
 show (js.length + 1) * _ ≤ _
 omega
theorem del_at {k : Nat} {js : List Jb} {i : Nat} (h : i < js.length) (hl : js.length ≤ 900) : S50 k js (i : Int) (IntKind.i64.wrap ((i : Int) + 1)) = some ((js.take i ++ js.drop (i + 1), ()), ()) := by
 have := del_set (k := k) (x := js.getD i j0) h hl
 rwa [upd_nat, set_same] at this
theorem j20_17_eq {k : Nat} {p a now ap : Int} {ts : List Tk} {bs : List Bd5} {ru ha hi : Bool} {js : List Jb} {g : List Int} {l : List Bool} {u : List Thg} {rows : List Int} {off : List Bool} {x1 x2 : Int} {x3 x4 x5 : Bool} {ev : List Ev} {i : Nat} (h : i ≤ js.length) (hl : js.length ≤ 900) (he : ev.length ≤ 10) :
  j20_17 k p a now ap ts bs ru ha hi js g l u rows off x1 x2 x3 x4 x5 ev (i : Int) = some (((now, ap, ts, bs, ru, ha, hi, js.take i ++ [newJ p now a] ++ js.drop i, ((g, l), u), rows, off), ev ++ [(now, 1, p, 0, a, 0)], 0, ()), ()) := by
 unfold j20_17 S52 S99
 simp only [Option.bind_some]
 have e := ins_at (k := k) (x := newJ p now a) h hl
 unfold newJ newM at e ⊢
 rw [e, Option.bind_some, ap_ok (by simp; omega)]
theorem S20_eq {k : Nat} (hk : 1000 ≤ k) {K : Kn} (h : KI K) (p a : Int) : S20 k K p a = some (((relM K p a).1, (relM K p a).2.1, (relM K p a).2.2, ()), ()) := by
 have hkok := h.kok
 have hl8 := h.len
 obtain ⟨now, ap, ts, bs, ru, ha, hi, js, T, rows, off⟩ := K
 have e : T = TK0 := h.tab
 subst e
 have h2 : ts.length ≤ 8 := h.few8
 have h5 : off.length = ts.length := h.off
 have h6 : ∀ j ∈ js, GOK ts j ∧ few j := h.job
 have h7 : rising js := h.ris
 have h8 : js.length ≤ 8 := hl8
 unfold S20 relM
 rw [S34_eq hk hkok, Option.bind_some]
 simp only
 cases ru with
 | false => rfl
 | true =>
  cases ha with
  | true => rfl
  | false =>
   simp only [Bool.not_true, cond_false]
   by_cases hp1 : p < 0
   ·rw [bif_t hp1, decide_eq_true hp1]; rfl
   ·rw [bif_f hp1, decide_eq_false hp1, Bool.false_or]
    by_cases hp2 : p ≥ (ts.length : Int)
    ·rw [bif_t hp2, decide_eq_true hp2]; rfl
    ·obtain ⟨n, rfl⟩ : ∃ n : Nat, p = (n : Int) := ⟨p.toNat, by omega⟩
     rw [bif_f hp2, decide_eq_false hp2, cond_false, bif_t (by omega), ix_nat (by omega), rd_nat, Int.toNat_natCast]
     cases off.getD n false with
     | true => rfl
     | false =>
      simp only [cond_false]
      have hfind := L95_3_eq (k := k) (p := (n : Int)) h8 (by omega) (fun j hj => by have := (h6 j hj).1.task; omega) h7 js.length k 0 js.length (by omega) (by omega) (by omega) (by omega) (fun c hc => by omega) (fun c hc hc2 => by omega)
      have hle := posJ_le (n : Int) js
      unfold j20_10 S49 S95
      simp only
      rw [show L95_3 k k js (n : Int) (js.length : Int) 0 (js.length : Int) = _ from hfind]
      simp only [Option.bind_some]
      cases hc : decide (posJ (n : Int) js < js.length) && (js.getD (posJ (n : Int) js) j0).1 == (n : Int) with
      | false =>
       simp only [cond_false]
       rw [j20_17_eq hle (by omega) (by simp)]
       rfl
      | true =>
       have hlt : posJ (n : Int) js < js.length := by
        rw [Bool.and_eq_true] at hc; exact of_decide_eq_true hc.1
       simp only [cond_true]
       rw [ix_nat hlt, rd_nat, show js.getD (posJ (n : Int) js) (0, 0, 0, 0, (0, prep (α := Int) 8 0, [], false), (0, prep (α := Int) 8 0, [], false), [], false) = js.getD (posJ (n : Int) js) j0 from rfl]
       cases (js.getD (posJ (n : Int) js) j0).2.2.2.1 != 2 with
       | true => rfl
       | false =>
        simp only [cond_false]
        rw [ap_ok (by simp), del_at hlt (by omega), Option.bind_some]
        simp only [List.nil_append]
        rw [j20_17_eq (by simp; omega) (by simp; omega) (by simp)]
        have ht : (js.take (posJ (n : Int) js) ++ js.drop (posJ (n : Int) js + 1)).take (posJ (n : Int) js) = js.take (posJ (n : Int) js) := by
         rw [List.take_append_of_le_length (by simp; omega), List.take_take, Nat.min_self]
        have hd : (js.take (posJ (n : Int) js) ++ js.drop (posJ (n : Int) js + 1)).drop (posJ (n : Int) js) = js.drop (posJ (n : Int) js + 1) := by
         rw [List.drop_append_of_le_length (by simp; omega), List.drop_eq_nil_of_le (by simp; omega), List.nil_append]
        rw [ht, hd]
        rfl
end Go.Proofs.YtmmagcjlfcicfaaGreat.Ab

/- A kernel without things: a job on its way. -/
namespace Go.Proofs.YtmmagcjlfcicfaaGreat.Ab
open Go.RowKit Tr
set_option linter.unusedSimpArgs false
set_option linter.unusedVariables false
structure LiveT (l : List I4) (m : Mc) (tr : List I4) (fin : Mem) : Prop where
 len : l.length ≤ 900
 ins : ∀ x ∈ l, mayI x = true ∧ x.1 ≠ 9 ∧ x.1 ≠ 10
 mem : inM m.2.1
 on : m.2.2.2 = false
 run : ∃ n n2 : Nat, m.1 = (n : Int) ∧ Run l n m.2.1 m.2.2.1.reverse tr n2 fin [] ∧ n2 < l.length ∧ (l.getD n2 i0).1 = 0
theorem LiveT.mok {l : List I4} {m : Mc} {tr : List I4} {fin : Mem} (h : LiveT l m tr fin) : MOK l m ∧ m.2.2.1.length ≤ 2 := by
 obtain ⟨n, n2, e, hr, h2, h0⟩ := h.run
 obtain ⟨pc, mem, rs, ov⟩ := m
 have e' : pc = (n : Int) := e
 subst e'
 have key : n < l.length ∧ rs.length ≤ 2 ∧ ∀ r ∈ rs, r.2.2 ≤ 1000 := by
  have hr' : Run l n mem rs.reverse tr n2 fin [] := hr
  generalize hR : rs.reverse = R at hr'
  have hrs : rs = R.reverse := by rw [← hR, List.reverse_reverse]
  subst hrs
  cases hr' with
  | nil => exact ⟨h2, by simp, by simp⟩
  | cons a b c d f g i r => exact ⟨a, by rw [List.length_reverse]; exact d, fun r hr => f r (List.mem_reverse.1 hr)⟩
 have hx := h.ins _ (getD_mem (z := i0) key.1)
 exact ⟨⟨h.len, ⟨by show (0 : Int) ≤ (n : Int); omega, by show (n : Int).toNat < _; rw [Int.toNat_natCast]; exact key.1⟩, hx.1, by have := key.2.1; show rs.length ≤ 100; omega, key.2.2, h.mem, h.on, hx.2⟩, key.2.1⟩
theorem LiveT.last {l : List I4} {m : Mc} {fin : Mem} (h : LiveT l m [] fin) : (stepX l m).1 = 0 ∧ (stepM l m).2.2.2 = true ∧ (stepM l m).2.1 = fin := by
 obtain ⟨n, n2, e, hr, h2, h0⟩ := h.run
 obtain ⟨pc, mem, rs, ov⟩ := m
 have e' : pc = (n : Int) := e
 subst e'
 have hr' : Run l n mem rs.reverse [] n2 fin [] := hr
 generalize hR : rs.reverse = R at hr'
 cases hr' with
 | nil =>
  have hx : ∀ mm : Mem, (stepX l ((n : Int), mm, rs, ov)).1 = 0 := fun mm => by unfold stepX; exact h0
  refine ⟨hx _, ?_, ?_⟩
  ·unfold stepM
   simp only
   rw [hx]; rfl
  ·unfold stepM
   simp only
   unfold eff
   rw [hx]; rfl
theorem LiveT.step {l : List I4} {m : Mc} {x : I4} {tr : List I4} {fin : Mem} (h : LiveT l m (x :: tr) fin) : stepX l m = x ∧ (stepM l m).2.2.2 = false ∧ LiveT l (stepM l m) tr fin := by
 obtain ⟨n, n2, e, hr, h2, h0⟩ := h.run
 obtain ⟨pc, mem, rs, ov⟩ := m
 have e' : pc = (n : Int) := e
 subst e'
 have hr' : Run l n mem rs.reverse (x :: tr) n2 fin [] := hr
 generalize hR : rs.reverse = R at hr'
 cases hr' with
 | cons a b c d f g i r =>
  rename_i n1 R1
  have hx : stepX l ((n : Int), mem, rs, ov) = x := by unfold stepX; exact b
  have hov : (stepM l ((n : Int), mem, rs, ov)).2.2.2 = false := by
   unfold stepM
   simp only
   rw [hx]; exact beq_eq_false_iff_ne.2 c
  have hxm := (h.ins _ (getD_mem (z := i0) a)).1
  rw [b] at hxm
  have e1 : stepM l ((n : Int), mem, rs, ov) = ((n1 : Int), eff x mem, R1.reverse, false) := by
   unfold stepM
   simp only
   rw [hx, hR, Int.toNat_natCast, g, beq_eq_false_iff_ne.2 c]
  refine ⟨hx, hov, ?_⟩
  rw [e1]
  exact ⟨h.len, h.ins, eff_in hxm h.mem, rfl, n1, n2, rfl, by show Run l n1 (eff x mem) R1.reverse.reverse tr n2 fin []; rw [List.reverse_reverse]; exact r, h2, h0⟩
theorem no10 : ∀ {t : Tr} {d : Nat} {hs : List Int} {ia : Bool}, Ok d hs ia t → (∀ x ∈ t.flat, x.1 ≠ 9) → ∀ x ∈ t.flat, x.1 ≠ 10
 | .nil, _, _, _, _, _ => fun x hx => by simp [Tr.flat] at hx
 | .one y r, d, hs, ia, h, h9 => fun x hx => by
  rw [Tr.flat, List.mem_cons] at hx
  rcases hx with rfl | hx
  ·exact h.2.1.2.2.2.2
  ·exact no10 h.2.2.2 (fun z hz => h9 z (by rw [Tr.flat]; exact List.mem_cons_of_mem _ hz)) x hx
 | .lk a b r, _, _, _, _, h9 => absurd rfl (h9 (9, a, 0, 0) (by rw [Tr.flat]; exact List.mem_cons_self))
 | .ar y b r, d, hs, ia, h, h9 => fun x hx => by
  rw [Tr.flat, List.mem_cons, List.mem_append] at hx
  rcases hx with rfl | hx | hx
  ·have := h.1.2.1
   unfold isA at this
   simp only [Bool.or_eq_true, beq_iff_eq] at this
   omega
  ·exact no10 h.2.2.1 (fun z hz => h9 z (by rw [Tr.flat]; simp [hz])) x hx
  ·exact no10 h.2.2.2 (fun z hz => h9 z (by rw [Tr.flat]; simp [hz])) x hx
theorem no9 : ∀ {t : Tr} {d : Nat} {hs : List Int} {ia : Bool}, Ok d hs ia t → semT 0 t → ∀ x ∈ t.flat, x.1 ≠ 9
 | .nil, _, _, _, _, _ => fun x hx => by simp [Tr.flat] at hx
 | .one y r, d, hs, ia, h, h9 => fun x hx => by
  rw [Tr.flat, List.mem_cons] at hx
  rcases hx with rfl | hx
  ·exact h.2.1.2.2.2.1
  ·exact no9 h.2.2.2 h9 x hx
 | .lk a b r, _, _, _, _, h9 => by have := h9.1; omega
 | .ar y b r, d, hs, ia, h, h9 => fun x hx => by
  rw [Tr.flat, List.mem_cons, List.mem_append] at hx
  rcases hx with rfl | hx | hx
  ·have := h.1.2.1
   unfold isA at this
   simp only [Bool.or_eq_true, beq_iff_eq] at this
   omega
  ·exact no9 h.2.2.1 h9.1 x hx
  ·exact no9 h.2.2.2 h9.2 x hx
def GoodP (l : List I4) : Prop := ∃ t : Tr, l = t.prog ∧ Ok 0 [] false t ∧ t.len < 24 ∧ ∀ x ∈ t.flat, x.1 ≠ 9
theorem GoodP.ins {l : List I4} (h : GoodP l) : l.length ≤ 900 ∧ ∀ x ∈ l, mayI x = true ∧ x.1 ≠ 9 ∧ x.1 ≠ 10 := by
 obtain ⟨t, rfl, h1, h2, h3⟩ := h
 refine ⟨by rw [prog_len]; omega, fun x hx => ?_⟩
 unfold Tr.prog at hx
 rw [List.mem_append] at hx
 rcases hx with hx | hx
 ·exact ⟨Ok_may h1 x hx, h3 x hx, no10 h1 h3 x hx⟩
 ·rw [List.mem_singleton] at hx
  rw [hx]; exact ⟨by decide, by decide, by decide⟩
theorem prog_last (t : Tr) : (t.prog.getD t.len i0).1 = 0 := by
 unfold Tr.prog
 rw [getD_app_r (by rw [flat_len]; omega), flat_len, Nat.sub_self]; rfl
theorem live_new {t : Tr} (h1 : Ok 0 [] false t) (h2 : t.len < 24) (h3 : ∀ x ∈ t.flat, x.1 ≠ 9) {a : Int} (ha : inR a) : LiveT t.prog (newM a) (trT t (mem0 a)).1 (trT t (mem0 a)).2 := by
 have hi := GoodP.ins ⟨t, rfl, h1, h2, h3⟩
 exact ⟨hi.1, hi.2, mem0_in a ha, rfl, 0, t.len, rfl, run_prog h1 (mem0 a), by rw [prog_len]; omega, prog_last t⟩
structure JL (t : Tk) (j : Jb) (tr : List I4) (fin : Mem) : Prop where
 task : j.1 = 0
 held : j.2.2.2.2.2.2.1 = []
 phase : 0 ≤ j.2.2.2.1 ∧ j.2.2.2.1 ≤ 2
 m : LiveT (codeJ t j.2.2.2.1) j.2.2.2.2.1 tr fin
 kept : ∃ tr2 fin2, LiveT (codeJ t j.2.2.2.1) j.2.2.2.2.2.1 tr2 fin2
theorem JL.gok {t : Tk} {j : Jb} {tr : List I4} {fin : Mem} (h : JL t j tr fin) : GOK [t] j ∧ few j := by
 obtain ⟨tr2, fin2, hk⟩ := h.kept
 have h1 := h.m.mok
 have h2 := hk.mok
 refine ⟨⟨⟨h.held, by omega, by omega⟩, by rw [h.task]; simp, h.phase, ?_⟩, by omega, by omega⟩
 rw [show [t].getD j.1.toNat t0 = t by rw [h.task]; rfl]
 exact h1.1
theorem JL.prom {t : Tk} {j : Jb} {tr : List I4} {fin : Mem} (h : JL t j tr fin) (now : Int) (bs : List Bd5) : JL t (promJ now bs j) tr fin := by
 obtain ⟨e1, e2, e3, e4, e5, e6, e7⟩ := promJ_task now bs j
 exact ⟨by rw [e1]; exact h.task, by rw [e7]; exact h.held, by rw [e4]; exact h.phase, by rw [e4, e5]; exact h.m, by rw [e4, e6]; exact h.kept⟩
theorem JL.go {t : Tk} {j : Jb} {x : I4} {tr : List I4} {fin : Mem} (h : JL t j (x :: tr) fin) : (goJ t j).2.2.2.2.1.2.2.2 = false ∧ JL t (goJ t j) tr fin := by
 obtain ⟨e1, e2, e3⟩ := h.m.step
 refine ⟨e2, h.task, h.held, h.phase, e3, ?_⟩
 show ∃ tr2 fin2, LiveT (codeJ t j.2.2.2.1) (bif (stepX (codeJ t j.2.2.2.1) j.2.2.2.2.1).1 == 11 then stepM (codeJ t j.2.2.2.1) j.2.2.2.2.1 else j.2.2.2.2.2.1) tr2 fin2
 cases (stepX (codeJ t j.2.2.2.1) j.2.2.2.2.1).1 == 11 with
 | true => exact ⟨tr, fin, e3⟩
 | false => exact h.kept
def oneK (now ap : Int) (t : Tk) (bs : List Bd5) (hi : Bool) (js : List Jb) (rows : List Int) : Kn := (now, ap, [t], bs, true, false, hi, js, TK0, rows, [false])
theorem one_ki {now ap : Int} {t : Tk} {bs : List Bd5} {hi : Bool} {rows : List Int} (hL : lightL [t]) (hb : bs.length = 1) (hr : rows.length = 1) : KI (oneK now ap t bs hi [] rows) :=
 ⟨rfl, hL, by simp [oneK], by simpa [oneK] using hb, by simpa [oneK] using hr, rfl, (fun j h => by cases h), List.Pairwise.nil⟩
theorem one_kij {now ap : Int} {t : Tk} {bs : List Bd5} {hi : Bool} {rows : List Int} {j : Jb} (hL : lightL [t]) (hb : bs.length = 1) (hr : rows.length = 1) (hj : GOK [t] j ∧ few j) : KI (oneK now ap t bs hi [j] rows) :=
 ⟨rfl, hL, by simp [oneK], by simpa [oneK] using hb, by simpa [oneK] using hr, rfl, (fun x h => by
  have : x = j := by simpa [oneK] using h
  rw [this]; exact hj), List.pairwise_singleton _ _⟩
theorem tick_none (now ap : Int) (t : Tk) (bs : List Bd5) (hi : Bool) (rows : List Int) : tickM (oneK now ap t bs hi [] rows) = (oneK (IntKind.i64.wrap (now + 1)) ap t bs false [] rows, []) := rfl
theorem next_one (j : Jb) (n : Int) : nextM [j] n = 0 := by
 unfold nextM
 show minG [keyJ n j] 1 0 0 = 0
 rw [minG, if_neg (by rw [cmpK_self]; omega)]; rfl
theorem tick_one {now ap : Int} {t : Tk} {bs : List Bd5} {hi : Bool} {rows : List Int} {j : Jb} (h0 : j.1 = 0) (he : IntKind.i64.wrap (now - j.2.1) ≠ t.2.2.1) :
  tickM (oneK now ap t bs hi [j] rows) =
   (oneK (IntKind.i64.wrap (now + 1)) ap t bs false (bif (bif hi then hitJ now t (promJ now bs j) rows else goesJ now t (promJ now bs j) rows).2.1 then [] else [(bif hi then hitJ now t (promJ now bs j) rows else goesJ now t (promJ now bs j) rows).1]) (bif hi then hitJ now t (promJ now bs j) rows else goesJ now t (promJ now bs j) rows).2.2.2,
       (now, 2, 0, 0, 0, 0) :: (bif hi then hitJ now t (promJ now bs j) rows else goesJ now t (promJ now bs j) rows).2.2.1) := by
 have e1 : endsM now [t] [j] rows [false] false = ([j], [], rows, [false], false) := by
  unfold endsM
  rw [List.foldl_cons, List.foldl_nil]
  unfold endS
  rw [show ([t].getD j.1.toNat t0) = t by rw [h0]; rfl, bne_iff_ne.2 he, cond_true]; rfl
 have e2 : (promJ now bs j).1 = 0 := by rw [(promJ_task now bs j).1, h0]
 unfold tickM oneK
 simp only [Bool.not_false, Bool.and_self, cond_true]
 rw [e1]
 simp only [List.map_cons, List.map_nil, List.isEmpty_cons, Bool.or_self, cond_false]
 unfold runsM
 simp only [List.length_cons, List.length_nil]
 rw [next_one]
 simp only [List.getD_cons_zero]
 rw [e2, show ([t].getD (0 : Int).toNat t0) = t from rfl]
 cases (bif hi then hitJ now t (promJ now bs j) rows else goesJ now t (promJ now bs j) rows).2.1 <;> simp
end Go.Proofs.YtmmagcjlfcicfaaGreat.Ab

/- A row of which some are left: bounds are no greater. -/
namespace Go.Proofs.YtmmagcjlfcicfaaGreat.Ab
open Go.RowKit Tr
set_option linter.unusedSimpArgs false
set_option linter.unusedVariables false
structure Emb (s l : List Tk) (f : Nat → Nat) : Prop where
 lt : ∀ a, a < s.length → f a < l.length
 eq : ∀ a, a < s.length → s.getD a t0 = l.getD (f a) t0
 mono : ∀ a b, a < b → b < s.length → f a < f b
theorem mx_le_iff {a b c : Int} : mx a b ≤ c ↔ a ≤ c ∧ b ≤ c := by unfold mx; split <;> omega
theorem spF_le_iff {l : List Tk} {i b : Int} : ∀ (sp : List (Int × Int)) (m : Int), spF l i m sp ≤ b ↔ m ≤ b ∧ ∀ e ∈ sp, ceilT l e.1 ≤ i → e.2 ≤ b
 | [], m => by simp [spF]
 | e :: r, m => by
  rw [spF, spF_le_iff r]
  simp only [List.mem_cons, forall_eq_or_imp]
  by_cases h : ceilT l e.1 ≤ i
  ·rw [decide_eq_true h, cond_true, mx_le_iff]
   exact ⟨fun q => ⟨q.1.1, fun _ => q.1.2, q.2⟩, fun q => ⟨⟨q.1, q.2.1 h⟩, q.2.2⟩⟩
  ·rw [decide_eq_false h, cond_false]
   exact ⟨fun q => ⟨q.1, fun h2 => absurd h2 h, q.2⟩, fun q => ⟨q.1, q.2.2⟩⟩
theorem byG_le_iff {l : List Tk} {i b : Int} : ∀ (r : List Tk) (n : Nat) (m : Int), byG l i r n m ≤ b ↔ m ≤ b ∧ ∀ j, j < r.length → ((n + j : Nat) : Int) ≠ i → ∀ e ∈ (costsT (r.getD j t0)).2.2, ceilT l e.1 ≤ i → e.2 ≤ b
 | [], n, m => by simp [byG]
 | t :: r, n, m => by
  rw [byG, byG_le_iff r]
  constructor
  ·intro ⟨h1, h2⟩
   cases hc : ((n : Int) == i) with
   | true =>
    rw [hc, cond_true] at h1
    refine ⟨h1, fun j hj hne => ?_⟩
    cases j with
    | zero => exact absurd (eq_of_beq hc) hne
    | succ j => exact h2 j (by simpa using hj) (by rw [show n + 1 + j = n + (j + 1) by omega]; exact hne)
   | false =>
    rw [hc, cond_false, spF_le_iff] at h1
    refine ⟨h1.1, fun j hj hne => ?_⟩
    cases j with
    | zero => exact h1.2
    | succ j => exact h2 j (by simpa using hj) (by rw [show n + 1 + j = n + (j + 1) by omega]; exact hne)
  ·intro ⟨h1, h2⟩
   refine ⟨?_, fun j hj hne => h2 (j + 1) (by simpa using hj) (by rw [show n + (j + 1) = n + 1 + j by omega]; exact hne)⟩
   cases hc : ((n : Int) == i) with
   | true => exact h1
   | false =>
    rw [cond_false, spF_le_iff]
    exact ⟨h1, h2 0 (by simp) (by rw [beq_eq_false_iff_ne] at hc; exact hc)⟩
theorem lostG_le_iff {b : Int} : ∀ (r : List Tk) (m : Int), lostG m r ≤ b ↔ m ≤ b ∧ ∀ t ∈ r, (costsT t).2.1 ≤ b
 | [], m => by simp [lostG]
 | t :: r, m => by
  rw [lostG, lostG_le_iff r, mx_le_iff]
  simp only [List.mem_cons, forall_eq_or_imp]
  exact and_assoc
theorem sumA_app (x : Int) : ∀ a b : List (Int × Int), sumA x (a ++ b) = sumA x a + sumA x b
 | [], b => by simp [sumA]
 | p :: a, b => by rw [List.cons_append, sumA, sumA, sumA_app x a b]; omega
section
variable {s l : List Tk} {f : Nat → Nat} (h : Emb s l f)
include h
theorem Emb.ceil {i : Nat} (hi : i < s.length) (h8 : s.length ≤ 8) {e : Int} (hc : ceilT s e ≤ (i : Int)) : ceilT l e ≤ ((f i : Nat) : Int) := by
 unfold ceilT at hc ⊢
 rcases ceilG_case e s 0 with ⟨q, _⟩ | ⟨n, hn, q, hl⟩
 ·omega
 ·rw [h.eq n hn] at hl
  have := ceilG_le e l 0 (f n) (h.lt n hn) hl
  have h2 : f n ≤ f i := by
   by_cases e : n = i
   ·rw [e]; exact Nat.le_refl _
   ·exact Nat.le_of_lt (h.mono n i (by omega) hi)
  omega
theorem Emb.by {i : Nat} (hi : i < s.length) (h8 : s.length ≤ 8) : byT s (i : Int) ≤ byT l ((f i : Nat) : Int) := by
 unfold byT
 rw [byG_le_iff]
 obtain ⟨h1, h2⟩ := (byG_le_iff (l := l) (i := ((f i : Nat) : Int)) l 0 0).1 (Int.le_refl _)
 refine ⟨h1, fun j hj hne e he hc => ?_⟩
 rw [Nat.zero_add] at hne
 have hfne : f j ≠ f i := by
  rcases Nat.lt_or_gt_of_ne (show j ≠ i from fun e => hne (by rw [e])) with q | q
  ·exact Nat.ne_of_lt (h.mono j i q hi)
  ·exact Nat.ne_of_gt (h.mono i j q hj)
 exact h2 (f j) (h.lt j hj) (by rw [Nat.zero_add]; omega) e (by rw [← h.eq j hj]; exact he) (h.ceil hi h8 hc)
theorem Emb.lost {i : Nat} (hi : i < s.length) : lostG 0 (s.take (i + 1)) ≤ lostG 0 (l.take (f i + 1)) := by
 rw [lostG_le_iff]
 obtain ⟨h1, h2⟩ := (lostG_le_iff (l.take (f i + 1)) 0).1 (Int.le_refl _)
 refine ⟨h1, fun t ht => h2 t ?_⟩
 obtain ⟨a, ha, e⟩ := List.mem_iff_getElem.1 ht
 rw [List.length_take] at ha
 have e1 : t = s.getD a t0 := by rw [← e, List.getElem_take, List.getD_eq_getElem?_getD, List.getElem?_eq_getElem (by omega)]; rfl
 have hfa : f a ≤ f i := by
  by_cases e : a = i
  ·rw [e]; exact Nat.le_refl _
  ·exact Nat.le_of_lt (h.mono a i (by omega) hi)
 have hla := h.lt a (by omega)
 rw [e1, h.eq a (by omega)]
 rw [List.getD_eq_getElem?_getD, List.getElem?_eq_getElem hla, List.mem_iff_getElem]
 exact ⟨f a, by rw [List.length_take]; omega, by rw [List.getElem_take]; rfl⟩
theorem Emb.sum (hco : ∀ t ∈ l, CoS t) {x : Int} (hx : 0 ≤ x) : ∀ a, a ≤ s.length → ∀ n, n ≤ l.length → (∀ b, b < a → f b < n) → sumA x ((s.take a).map pc1) ≤ sumA x ((l.take n).map pc1)
 | 0, _, n, hn, _ => by
  rw [List.take_zero]
  exact sumA_nonneg hx (fun y hy => by
   obtain ⟨t, ht, rfl⟩ := List.mem_map.1 hy
   have q := hco t (List.mem_of_mem_take ht)
   have := q.cost; have := q.per
   unfold pc1; simp only; omega)
 | a + 1, ha, n, hn, hb => by
  have hfa := hb a (by omega)
  have hla : f a < l.length := h.lt a (by omega)
  have ih := Emb.sum hco hx a (by omega) (f a) (by omega) (fun b hb => h.mono b a hb (by omega))
  rw [take_snoc (show a < s.length by omega), List.map_append, sumA_app, h.eq a (by omega)]
  have e : l.take n = l.take (f a) ++ [l.getD (f a) t0] ++ (l.take n).drop (f a + 1) := by
   rw [← take_snoc hla]
   have := (List.take_append_drop (f a + 1) (l.take n)).symm
   rwa [List.take_take, Nat.min_eq_left (by omega)] at this
  rw [e, List.map_append, List.map_append, sumA_app, sumA_app]
  have : 0 ≤ sumA x (((l.take n).drop (f a + 1)).map pc1) := sumA_nonneg hx (fun y hy => by
   obtain ⟨t, ht, rfl⟩ := List.mem_map.1 hy
   have q := hco t (List.mem_of_mem_take (List.mem_of_mem_drop ht))
   have := q.cost; have := q.per
   unfold pc1; simp only; omega)
  omega
theorem Emb.right (hco : RS l) {i : Nat} (hi : i < s.length) (h8 : s.length ≤ 8) {ap x : Int} (ha : 1 ≤ ap) (hx : 0 ≤ x) : firstT s i ≤ firstT l (f i) ∧ rightT s i ap x ≤ rightT l (f i) ap x := by
 have h1 := h.by hi h8
 have h2 := h.lost hi
 have h3 := h.sum hco.co hx i (by omega) (f i) (Nat.le_of_lt (h.lt i hi)) (fun b hb => h.mono b i hb hi)
 have h4 := Int.mul_le_mul_of_nonneg_left h2 (up_bd hx ha).1
 have hf : firstT s i ≤ firstT l (f i) := by unfold firstT; rw [h.eq i hi]; omega
 refine ⟨hf, ?_⟩
 unfold rightT; omega
theorem Emb.row (hr : rowT l = true) : rowT s = true := by
 have hri := row_rises hr
 rw [row_iff] at hr ⊢
 intro n hn
 rw [h.eq n hn]
 refine ⟨(hr _ (h.lt n hn)).1, fun h0 => ?_⟩
 rw [h.eq (n - 1) (by omega)]
 exact hri _ _ (h.mono (n - 1) n (by omega) hn) (h.lt n hn)
theorem Emb.light (hL : lightL l) (hs : s.length ≤ 100) : lightL s := ⟨hs, fun t ht => by
 obtain ⟨a, ha, e⟩ := List.mem_iff_getElem.1 ht
 have e1 : t = s.getD a t0 := by rw [← e, List.getD_eq_getElem?_getD, List.getElem?_eq_getElem ha]; rfl
 rw [e1, h.eq a ha]
 exact hL.2 _ (getD_mem (h.lt a ha))⟩
theorem Emb.resp (hL : lightL l) (hl : l.length ≤ 10) (h8 : s.length ≤ 8) {i : Nat} (hi : i < s.length) {ap : Int} (he : (respT l ((f i : Nat) : Int) ap).2.2 = 0) : (respT s (i : Int) ap).2.2 = 0 ∧ (respT s (i : Int) ap).1 ≤ (respT l ((f i : Nat) : Int) ap).1 := by
 obtain ⟨h1, h2, h3, h4, h5, h6, h7⟩ := respT_ok hL hl he
 have hR := row_rs h1 hL hl
 have hs := row_rs (h.row h1) (h.light hL (by omega)) (by omega)
 obtain ⟨q1, q2⟩ := h.right hR hi h8 (ap := ap) (x := (respT l ((f i : Nat) : Int) ap).1) h3 (by omega)
 exact respT_below (h.row h1) hs hi h3 (by omega) (by omega) (by rw [h.eq i hi]; exact h6)
end
theorem allG_ok {l : List Tk} {ap : Int} : ∀ (d i : Nat) (out : List Bd5), (∀ a, i ≤ a → a < i + d → (respT l (a : Int) ap).2.2 = 0) → allG l ap d i out = (out ++ (List.range' i d).map (bT l ap), 0)
 | 0, i, out, _ => by rw [allG]; simp
 | d + 1, i, out, h => by
  rw [allG, if_pos (h i (Nat.le_refl _) (by omega)), allG_ok d (i + 1) _ (fun a h1 h2 => h a (by omega) (by omega)), List.range'_succ, List.map_cons, List.append_assoc]; rfl
theorem allG_good {l : List Tk} {ap : Int} : ∀ (d i : Nat) (out : List Bd5), (allG l ap d i out).2 = 0 → ∀ a, i ≤ a → a < i + d → (respT l (a : Int) ap).2.2 = 0
 | 0, i, out, _, a, h1, h2 => by omega
 | d + 1, i, out, h, a, h1, h2 => by
  rw [allG] at h
  by_cases he : (respT l (i : Int) ap).2.2 = 0
  ·rw [if_pos he] at h
   by_cases e : a = i
   ·rw [e]; exact he
   ·exact allG_good d (i + 1) _ h a (by omega) (by omega)
  ·rw [if_neg he] at h; exact absurd h he
theorem allT_of {l : List Tk} {ap : Int} (ha : 1 ≤ ap) (h : ∀ i, i < l.length → (respT l (i : Int) ap).2.2 = 0) : allT l ap = ((List.range l.length).map (bT l ap), 0) := by
 unfold allT
 rw [if_neg (by omega), allG_ok l.length 0 [] (fun a _ h2 => h a (by omega)), List.nil_append, ← List.range_eq_range']
theorem allT_good {l : List Tk} {ap : Int} (h : (allT l ap).2 = 0) : 1 ≤ ap ∧ ∀ i, i < l.length → (respT l (i : Int) ap).2.2 = 0 := by
 unfold allT at h
 by_cases ha : ap < 1
 ·rw [if_pos ha] at h; exact absurd h (by decide)
 ·rw [if_neg ha] at h
  exact ⟨by omega, fun i hi => allG_good l.length 0 [] h i (by omega) (by omega)⟩
theorem Emb.all {s l : List Tk} {f : Nat → Nat} (h : Emb s l f) (hL : lightL l) (hl : l.length ≤ 10) (h8 : s.length ≤ 8) {ap : Int} (he : (allT l ap).2 = 0) : allT s ap = ((List.range s.length).map (bT s ap), 0) := by
 obtain ⟨h1, h2⟩ := allT_good he
 exact allT_of h1 (fun i hi => (h.resp hL hl h8 hi (h2 _ (h.lt i hi))).1)
end Go.Proofs.YtmmagcjlfcicfaaGreat.Ab

/- The law of all who come in. -/
namespace Go.Proofs.YtmmagcjlfcicfaaGreat.Ab
open Go.RowKit Tr
set_option linter.unusedSimpArgs false
set_option linter.unusedVariables false
end Go.Proofs.YtmmagcjlfcicfaaGreat.Ab

/- The law of places by rank. -/
namespace Go.Proofs.YtmmagcjlfcicfaaGreat.Ab
open Go.RowKit Tr
set_option linter.unusedSimpArgs false
set_option linter.unusedVariables false
theorem inT_ok {l : List Tk} {t : Tk} {ap : Int} (h : (inT l t ap).2.2 = 0) : (inT l t ap).1 = putT l t ∧ (inT l t ap).2.1 = (allT (putT l t) ap).1 ∧ (allT (putT l t) ap).2 = 0 ∧ l.any (fun x => x.1 == t.1) = false := by
 unfold inT at h ⊢
 split at h
 ·rename_i q; exact absurd h q
 ·rename_i q
  rw [if_neg q]
  split at h
  ·exact absurd h (by decide)
  ·rename_i q2
   rw [if_neg q2]
   split at h
   ·exact absurd h (by decide)
   ·rename_i q3
    rw [if_neg q3]
    split at h
    ·rename_i q4; exact absurd h q4
    ·rename_i q4
     rw [if_neg q4]
     exact ⟨rfl, rfl, by simpa using q4, Bool.eq_false_iff.2 q2⟩
end Go.Proofs.YtmmagcjlfcicfaaGreat.Ab

/- A task alone runs from its release on, and is done with what its program comes to. -/
namespace Go.Proofs.YtmmagcjlfcicfaaGreat.Ab
open Go.RowKit Tr
set_option linter.unusedSimpArgs false
set_option linter.unusedVariables false
theorem adm_one {t : Tk} {ap : Int} (hT : lightT t ∧ (t.2.2.2.1 ++ t.2.2.2.2.1).length ≤ 900) (h : (inT [] t ap).2.2 = 0) : mayT t = 0 ∧ (inT [] t ap).1 = [t] ∧ (∃ b, (inT [] t ap).2.1 = [b] ∧ b.2.2.2.2 = t.2.2.1 - b.2.2.2.1) ∧
  ∃ y, (costsT t).1 ≤ y ∧ y ≤ t.2.2.1 ∧ (costsT t).1 + up y ap * mx 0 (costsT t).2.1 = y := by
 obtain ⟨g1, g2, g3, _⟩ := inT_ok h
 rw [show putT [] t = [t] from rfl] at g1 g2 g3
 obtain ⟨ha, hr⟩ := allT_good g3
 have hr0 := hr 0 (by simp)
 have hrow : rowT [t] = true := by
  unfold respT at hr0
  split at hr0
  ·rename_i q; exact q.1
  ·exact absurd hr0 (by decide)
 have hL : lightL [t] := ⟨by simp, fun x hx => by rw [List.mem_singleton] at hx; rw [hx]; exact hT⟩
 have hR := row_rs hrow hL (by simp)
 have hi : 0 < [t].length := by simp
 obtain ⟨y, hy⟩ := resp_some hR hi ha
 have hf := hR.first hi
 have hresp := respT_at hrow hi ha hy
 rw [hresp] at hr0
 have hen := (hR.co t (by simp)).en
 have hs := respG_spec (right_mono hR ha) 20000 (firstT [t] 0) 1 y (by omega) (hR.right hi ha (by omega)).1 (by have := (hR.right hi ha (r := firstT [t] 0) (by omega)).1; omega) hy
 have hfirst : firstT [t] 0 = (costsT t).1 := by
  unfold firstT byT
  show (costsT t).1 + 0 = _
  omega
 have hright : ∀ x, rightT [t] 0 ap x = (costsT t).1 + up x ap * mx 0 (costsT t).2.1 := fun x => by
  unfold rightT
  rw [hfirst]
  show (costsT t).1 + up x ap * lostG (mx 0 (costsT t).2.1) [] + sumA x [] = _
  rw [lostG, sumA]; omega
 have hm : mayT t = 0 := (row_iff.1 hrow 0 hi).1
 refine ⟨hm, g1, ?_, ?_⟩
 ·have hall := allT_of (l := [t]) ha (fun i hi2 => hr i hi2)
  rw [g2, hall]
  exact ⟨_, rfl, rfl⟩
 ·rcases hs with ⟨e, _⟩ | ⟨a1, a2, a3, a4, _⟩
  ·rw [e] at hr0; exact absurd hr0 (by decide)
  ·rw [hright] at a2
   exact ⟨y.1, by omega, a4, a2⟩
theorem MT.noL {r : Int} {t : Tk} (h : MT 0 r t) (hm : mayT t = 0) : GoodP t.2.2.2.1 ∧ (t.2.2.2.2.1 = [] ∨ GoodP t.2.2.2.2.1) ∧ (t.2.2.2.2.2 = [] ∨ GoodP t.2.2.2.2.2) := by
 obtain ⟨m, e, hM, hl⟩ := h.main
 refine ⟨⟨m, e, hM.ok, by omega, no9 hM.ok hM.free⟩, ?_, ?_⟩
 ·rcases h.way with e | e | e
  ·exact .inl e
  ·exact .inr ⟨.one (1, 0, 0, 99) .nil, e, by unfold Ok Tr.plain; refine ⟨by decide, by decide, by decide, ?_⟩; unfold Ok; trivial, by decide, by decide⟩
  ·exact .inr ⟨.nil, e, by unfold Ok; trivial, by decide, by decide⟩
 ·rcases h.opt with e | ⟨o, e, hO, hl⟩
  ·exact .inl e
  ·exact .inr ⟨o, e, hO.ok, by omega, no9 hO.ok hO.free⟩
theorem noLocks {t : Tk} (h1 : GoodP t.2.2.2.1) (h2 : t.2.2.2.2.1 = [] ∨ GoodP t.2.2.2.2.1) : [t].any locksZ = false := by
 rw [Bool.eq_false_iff]
 intro h
 simp only [List.any_cons, List.any_nil, Bool.or_false] at h
 unfold locksZ at h
 rw [List.any_eq_true] at h
 obtain ⟨x, hx, hl⟩ := h
 have h9 : x.1 ≠ 9 := by
  rw [List.mem_append] at hx
  rcases hx with hx | hx
  ·exact (h1.ins.2 x hx).2.1
  ·rcases h2 with e | h2
   ·rw [e] at hx; cases hx
   ·exact (h2.ins.2 x hx).2.1
 unfold lockZ at hl
 rw [beq_eq_false_iff_ne.2 h9] at hl
 cases hl
theorem light_one {t : Tk} (hT : lightT t ∧ (t.2.2.2.1 ++ t.2.2.2.2.1).length ≤ 900) : lightL [t] := ⟨by simp, fun x hx => by rw [List.mem_singleton] at hx; rw [hx]; exact hT⟩
theorem rel_one (now ap : Int) (t : Tk) (bs : List Bd5) (rows : List Int) (a : Int) : relM (oneK now ap t bs false [] rows) 0 a = (oneK now ap t bs false [newJ 0 now a] rows, [(now, 1, 0, 0, a, 0)], 0) := rfl
theorem tick_eqT {k : Nat} (hk : 1000 ≤ k) {K K2 : Kn} {ev : List Ev} (h : KI K) (e : tickM K = (K2, ev)) : S23 k K = some ((K2, ev, ()), ()) := by
 rw [S23_eq hk h, e]
theorem goes_on {now ap : Int} {t : Tk} {bs : List Bd5} {rows : List Int} {j : Jb} {x : I4} {tr : List I4} {fin : Mem} (hj : JL t j (x :: tr) fin) (he : IntKind.i64.wrap (now - j.2.1) ≠ t.2.2.1) :
  ∃ j2, tickM (oneK now ap t bs false [j] rows) = (oneK (IntKind.i64.wrap (now + 1)) ap t bs false [j2] rows, [(now, 2, 0, 0, 0, 0)]) ∧ JL t j2 tr fin ∧ j2.2.1 = j.2.1 ∧ j2.2.2.1 = j.2.2.1 ∧ j2.2.2.2.1 = j.2.2.2.1 := by
 obtain ⟨e1, e2, e3, e4, e5, e6, e7⟩ := promJ_task now bs j
 have hg := (hj.prom now bs).go
 refine ⟨goJ t (promJ now bs j), ?_, hg.2, e2, e3, e4⟩
 rw [tick_one hj.task he]
 simp only [cond_false]
 unfold goesJ
 rw [hg.1, cond_false]
 rfl
theorem goes_done {now ap : Int} {t : Tk} {bs : List Bd5} {rows : List Int} {j : Jb} {fin : Mem} (hj : JL t j [] fin) (hp : j.2.2.2.1 ≠ 2) (he : IntKind.i64.wrap (now - j.2.1) ≠ t.2.2.1) :
  ∃ j2 : Jb, ∃ more : List Ev, tickM (oneK now ap t bs false [j] rows) = (oneK (IntKind.i64.wrap (now + 1)) ap t bs false (bif (t.2.2.2.2.2.length : Int) == 0 then [] else [j2]) (rows.set 0 0), [(now, 2, 0, 0, 0, 0), (now, 3, 0, 0, fin.1, 0)] ++ more) ∧ (∀ e ∈ more, e.2.1 = 8) ∧ more.length ≤ 1 := by
 obtain ⟨e1, e2, e3, e4, e5, e6, e7⟩ := promJ_task now bs j
 have hj2 := hj.prom now bs
 obtain ⟨l1, l2, l3⟩ := hj2.m.last
 rw [tick_one hj.task he]
 simp only [cond_false]
 unfold goesJ
 rw [show (goJ t (promJ now bs j)).2.2.2.2.1.2.2.2 = true from l2, cond_true]
 unfold doneJ
 rw [show ((goJ t (promJ now bs j)).2.2.2.1 == 2) = false from by show ((promJ now bs j).2.2.2.1 == 2) = false; rw [e4]; exact beq_eq_false_iff_ne.2 hp]
 simp only [cond_false]
 rw [show (goJ t (promJ now bs j)).1 = 0 from hj2.task, show (goJ t (promJ now bs j)).2.2.2.2.1.2.1.1 = fin.1 from congrArg (fun m : Mem => m.1) l3]
 refine ⟨_, _, rfl, ?_, by cases ((goJ t (promJ now bs j)).2.2.2.1 == 0) && decide ((t.2.2.2.2.1.length : Int) > 0) <;> simp⟩
 intro e he
 cases hc : ((goJ t (promJ now bs j)).2.2.2.1 == 0) && decide ((t.2.2.2.2.1.length : Int) > 0) with
 | true => rw [hc, cond_true, List.mem_singleton] at he; rw [he]
 | false => rw [hc, cond_false] at he; cases he
end Go.Proofs.YtmmagcjlfcicfaaGreat.Ab

/- A task alone runs from its release on, and is done with what its program comes to: the law. -/
namespace Go.Proofs.YtmmagcjlfcicfaaGreat.Ab
open Go.RowKit Tr
set_option linter.unusedSimpArgs false
set_option linter.unusedVariables false
theorem new1000 {k : Nat} (hk : 1000 ≤ k) {ap : Int} (h1 : 1 ≤ ap) (h2 : ap ≤ 4611686018427387904) : S25 k ap = some (((0, ap, [], [], false, false, false, [], TK0, [], []), true, ()), ()) := by
 obtain ⟨k, rfl⟩ : ∃ m, k = m + 1000 := ⟨k - 1000, by omega⟩
 exact new24 k h1 h2
theorem start_one {k : Nat} (hk : 1000 ≤ k) {ap : Int} {t : Tk} {bs : List Bd5} (hL : lightL [t]) (hb : bs.length = 1) (hn : [t].any locksZ = false) : S12 k (0, ap, [t], bs, false, false, false, [], TK0, [], []) = some (((0, ap, [t], bs, true, false, false, [], TK0, [], []), 0, ()), ()) := by
 have h : KOK (0, ap, [t], bs, false, false, false, [], TK0, [], []) := ⟨rfl, hL, by simp only; omega, by simp, (fun j h => by cases h), by simp, by simp⟩
 have := start_new hk h
 rw [hn] at this
 exact this
theorem MT.both {locks r : Int} {t : Tk} (h : MT locks r t) : lightT t ∧ (t.2.2.2.1 ++ t.2.2.2.2.1).length ≤ 900 := by
 refine ⟨h.light, ?_⟩
 obtain ⟨m, e, hM, hl⟩ := h.main
 rw [List.length_append, e, prog_len]
 rcases h.way with e | e | e <;> rw [e] <;> simp <;> omega
end Go.Proofs.YtmmagcjlfcicfaaGreat.Ab

/- How long pieces of runs are, and how long what is held is held. -/
namespace Go.Proofs.YtmmagcjlfcicfaaGreat.Ab
open Go.RowKit Tr
set_option linter.unusedSimpArgs false
set_option linter.unusedVariables false
abbrev Sin : Type := PN Int 4
def fA (n v : Int) : Int := if v > 0 then v + n else v
def adv (n : Int) (s : Sin) : Sin := (fA n s.1, fA n s.2.1, fA n s.2.2.1, fA n s.2.2.2)
theorem fA_add {n m v : Int} (hm : 0 ≤ m) : fA n (fA m v) = fA (m + n) v := by
 unfold fA
 by_cases h : v > 0
 ·rw [if_pos h, if_pos (by omega), if_pos h]; omega
 ·rw [if_neg h, if_neg h, if_neg h]
theorem adv_add {n m : Int} {s : Sin} (hm : 0 ≤ m) : adv n (adv m s) = adv (m + n) s := by
 unfold adv; simp only [fA_add hm]
theorem adv_zero (s : Sin) : adv 0 s = s := by
 unfold adv fA
 obtain ⟨a, b, c, d⟩ := s
 simp only [Int.add_zero, ite_self]
def sg (s : Sin) (a : Int) : Int := aget (α := Int) 4 s a 0
theorem four {a : Int} (h : 0 ≤ a ∧ a ≤ 3) : a = 0 ∨ a = 1 ∨ a = 2 ∨ a = 3 := by omega
theorem sg_adv {n a : Int} {s : Sin} (h : 0 ≤ a ∧ a ≤ 3) : sg (adv n s) a = fA n (sg s a) := by
 rcases four h with rfl | rfl | rfl | rfl <;> rfl
theorem sg_set {a c v : Int} {s : Sin} (h : 0 ≤ a ∧ a ≤ 3) (hc : 0 ≤ c ∧ c ≤ 3) : sg (aset (α := Int) 4 s a v) c = if c = a then v else sg s c := by
 rcases four h with rfl | rfl | rfl | rfl <;> rcases four hc with rfl | rfl | rfl | rfl <;> rfl
theorem Sin_ext {s u : Sin} (h : ∀ a, 0 ≤ a ∧ a ≤ 3 → sg s a = sg u a) : s = u :=
 Prod.ext (h 0 (by omega)) (Prod.ext (h 1 (by omega)) (Prod.ext (h 2 (by omega)) (h 3 (by omega))))
def fitsIn (cs : List (Int × Int)) (a v : Int) : Bool := cs.any (fun e => e.1 == a && decide (e.2 ≥ v - 1))
def hst (cs : List (Int × Int)) (x : I4) (st : Int × Sin) : Option (Int × Sin) :=
 if x.1 = 11 ∨ x.1 = 0 then some (0, adv 1 st.2)
 else if x.1 = 9 then some (st.1 + 1, aset (α := Int) 4 (adv 1 st.2) x.2.1 1)
 else if x.1 = 10 then (if fitsIn cs x.2.1 (sg (adv 1 st.2) x.2.1) = true then some (st.1 + 1, aset (α := Int) 4 (adv 1 st.2) x.2.1 0) else none)
 else some (st.1 + 1, adv 1 st.2)
def hrun (cs : List (Int × Int)) (c1 : Int) : Int × Sin → List I4 → Option (Int × Sin)
 | st, [] => some st
 | st, x :: r => if st.1 + 1 ≤ c1 then (hst cs x st).bind (fun st' => hrun cs c1 st' r) else none
theorem hrun_app (cs : List (Int × Int)) (c1 : Int) : ∀ (a b : List I4) (st : Int × Sin), hrun cs c1 st (a ++ b) = (hrun cs c1 st a).bind (fun st => hrun cs c1 st b)
 | [], b, st => rfl
 | x :: a, b, st => by
  rw [List.cons_append, hrun, hrun]
  split
  ·cases hst cs x st with
   | none => rfl
   | some st' => rw [Option.bind_some, Option.bind_some, hrun_app cs c1 a b]
  ·rfl
def SOK (hs : List Int) (s : Sin) : Prop := ∀ a, 0 ≤ a ∧ a ≤ 3 → (a ∈ hs → 0 < sg s a) ∧ (a ∉ hs → sg s a = 0)
theorem SOK_adv {hs : List Int} {s : Sin} {n : Int} (hn : 0 ≤ n) (h : SOK hs s) : SOK hs (adv n s) := fun a ha => by
 obtain ⟨h1, h2⟩ := h a ha
 rw [sg_adv ha]
 unfold fA
 refine ⟨fun hm => ?_, fun hm => ?_⟩
 ·have := h1 hm; rw [if_pos this]; omega
 ·have := h2 hm; rw [this]; rfl
theorem hrun_rpt {cs : List (Int × Int)} {c1 : Int} {hs : List Int} {f : Mem → List I4 × Mem} {c : Int} (hc : 0 ≤ c) (hl : ∀ m, ((f m).1.length : Int) ≤ c)
  (hf : ∀ m p s, SOK hs s → p + c ≤ c1 → hrun cs c1 (p, s) (f m).1 = some (p + ((f m).1.length : Int), adv ((f m).1.length : Int) s)) : ∀ (n : Nat) (m : Mem) (p : Int) (s : Sin), SOK hs s → p + (n : Int) * c ≤ c1 →
  hrun cs c1 (p, s) (rpt f n m).1 = some (p + ((rpt f n m).1.length : Int), adv ((rpt f n m).1.length : Int) s)
 | 0, m, p, s, _, _ => by simp [rpt, hrun, adv_zero]
 | n + 1, m, p, s, hs, hp => by
  have e : ((n + 1 : Nat) : Int) * c = (n : Int) * c + c := by rw [show ((n + 1 : Nat) : Int) = (n : Int) + 1 by omega, Int.add_mul, Int.one_mul]
  have h0 : 0 ≤ (n : Int) * c := Int.mul_nonneg (by omega) hc
  have hlm := hl m
  rw [rpt, hrun_app, hf m p s hs (by omega), Option.bind_some, hrun_rpt hc hl hf n (f m).2 _ _ (SOK_adv (by omega) hs) (by omega), adv_add (by omega), List.length_append]
  congr 2
  ·omega
  all_goals (congr 1; omega)
theorem hrun_cons {cs : List (Int × Int)} {c1 p : Int} {s : Sin} {x : I4} {r : List I4} {st' : Int × Sin} (h : p + 1 ≤ c1) (hx : hst cs x (p, s) = some st') : hrun cs c1 (p, s) (x :: r) = hrun cs c1 st' r := by
 rw [hrun, if_pos h, hx, Option.bind_some]
theorem hst_plain {cs : List (Int × Int)} {x : I4} {p : Int} {s : Sin} (h0 : x.1 ≠ 0) (h9 : x.1 ≠ 9) (h10 : x.1 ≠ 10) (h11 : x.1 ≠ 11) : hst cs x (p, s) = some (p + 1, adv 1 s) := by
 unfold hst; rw [if_neg (by rintro (h | h); exact h11 h; exact h0 h), if_neg h9, if_neg h10]
theorem hrun_in {cs : List (Int × Int)} {c1 : Int} : ∀ {t : Tr} {d : Nat} {hs : List Int} {ia : Bool} (mem : Mem) (p : Int) (s : Sin), Ok d hs ia t → (ia = true ∨ hs ≠ []) → (∀ e ∈ t.spans, e ∈ cs) → SOK hs s → p + t.cost ≤ c1 →
  hrun cs c1 (p, s) (trT t mem).1 = some (p + ((trT t mem).1.length : Int), adv ((trT t mem).1.length : Int) s)
 | .nil, _, _, _, mem, p, s, _, _, _, _, _ => by simp [trT, hrun, adv_zero]
 | .one x r, _, hs, ia, mem, p, s, ⟨h1, h2, h3, h4⟩, hq, hc, hS, hp => by
  have e11 : x.1 ≠ 11 := fun e => by obtain ⟨q1, q2⟩ := h3 e; rcases hq with q | q; rw [q1] at q; cases q; exact q q2
  have hcr := cost_nonneg h4
  simp only [Tr.cost] at hp
  simp only [trT]
  rw [hrun_cons (by omega) (hst_plain h2.1 h2.2.2.2.1 h2.2.2.2.2 e11), hrun_in (eff x mem) (p + 1) (adv 1 s) h4 hq hc (SOK_adv (by omega) hS) (by omega), adv_add (by omega), List.length_cons]
  congr 2
  ·omega
  ·congr 1; omega
 | .lk a b r, _, hs, ia, mem, p, s, ⟨h1, h2, h3, h4⟩, hq, hc, hS, hp => by
  have hcr := cost_nonneg h4
  have hcb := cost_nonneg h3
  simp only [Tr.cost] at hp
  simp only [Tr.spans] at hc
  have hlb := tr_len mem h3
  simp only [trT]
  have s1 : hst cs ((9, a, 0, 0) : I4) (p, s) = some (p + 1, aset (α := Int) 4 (adv 1 s) a 1) := by unfold hst; rw [if_neg (by simp), if_pos rfl]
  have hS1 : SOK (hs ++ [a]) (aset (α := Int) 4 (adv 1 s) a 1) := fun c hcc => by
   obtain ⟨g1, g2⟩ := SOK_adv (n := 1) (by omega) hS c hcc
   rw [sg_set h1 hcc]
   refine ⟨fun hm => ?_, fun hm => ?_⟩
   ·split
    ·omega
    ·rename_i e
     rcases List.mem_append.1 hm with hm | hm
     ·exact g1 hm
     ·exact absurd (List.mem_singleton.1 hm) e
   ·rw [if_neg (fun e => hm (by rw [e]; simp))]
    exact g2 (fun e => hm (List.mem_append_left _ e))
  rw [hrun_cons (by omega) s1, hrun_app, hrun_in mem (p + 1) _ h3 (.inr (by simp)) (fun e he => hc e (List.mem_cons_of_mem _ (List.mem_append_left _ he))) hS1 (by omega), Option.bind_some]
  generalize hn : ((trT b mem).1.length : Int) = n at hlb ⊢
  have hn0 : 0 ≤ n := by omega
  have hsg : sg (adv 1 (adv n (aset (α := Int) 4 (adv 1 s) a 1))) a = n + 2 := by
   rw [sg_adv h1, sg_adv h1, sg_set h1 h1, if_pos rfl]
   unfold fA; rw [if_pos (by omega), if_pos (by omega)]; omega
  have s2 : hst cs ((10, a, 0, 0) : I4) (p + 1 + n, adv n (aset (α := Int) 4 (adv 1 s) a 1)) = some (p + 1 + n + 1, adv (n + 2) s) := by
   unfold hst
   have hfit : fitsIn cs a (sg (adv 1 (adv n (aset (α := Int) 4 (adv 1 s) a 1))) a) = true := by
    unfold fitsIn
    rw [List.any_eq_true]
    refine ⟨(a, b.cost + 1), hc _ List.mem_cons_self, ?_⟩
    rw [hsg]
    simp only [beq_self_eq_true, Bool.true_and, decide_eq_true_eq]; omega
   rw [if_neg (by simp), if_neg (by simp), if_pos rfl, if_pos hfit]
   congr 2
   refine Sin_ext (fun c hcc => ?_)
   rw [sg_set h1 hcc, sg_adv hcc, sg_adv hcc, sg_adv hcc, sg_set h1 hcc, sg_adv hcc]
   split
   ·rename_i e
    subst e
    rw [(hS c hcc).2 h2.1]; rfl
   ·rw [fA_add (by omega), fA_add (by omega)]; congr 1; omega
  rw [hrun_cons (by omega) s2, hrun_in (trT b mem).2 _ _ h4 hq (fun e he => hc e (List.mem_cons_of_mem _ (List.mem_append_right _ he))) (SOK_adv (by omega) hS) (by omega), adv_add (by omega), List.length_cons, List.length_append, List.length_cons]
  congr 2
  ·omega
  ·congr 1; omega
 | .ar x b r, d, hs, ia, mem, p, s, ⟨h1, h2, h3, h4⟩, hq, hc, hS, hp => by
  have hcr := cost_nonneg h4
  have hcb := cost_nonneg h3
  have hrep := repOf_may h1.1
  have hrc := Int.mul_nonneg (show 0 ≤ repOf x by omega) hcb
  have hA := h1.2.1
  simp only [Tr.cost] at hp
  simp only [Tr.spans] at hc
  simp only [trT]
  rw [hrun_cons (by omega) (hst_plain (fun e => by simp [isA, e] at hA) (fun e => by simp [isA, e] at hA) (fun e => by simp [isA, e] at hA) (fun e => by simp [isA, e] at hA)), hrun_app]
  have hb := fun m p s (q1 : SOK hs s) (q2 : p + b.cost ≤ c1) => hrun_in (cs := cs) (c1 := c1) m p s h3 (.inl rfl) (fun e he => hc e (List.mem_append_left _ he)) q1 q2
  have fin : ∀ (q : List I4 × Mem), ((q.1.length : Int) ≤ repOf x * b.cost) → hrun cs c1 (p + 1, adv 1 s) q.1 = some (p + 1 + (q.1.length : Int), adv (q.1.length : Int) (adv 1 s)) →
    (hrun cs c1 (p + 1, adv 1 s) q.1).bind (fun st => hrun cs c1 st (trT r q.2).1) = some (p + ((x :: (q.1 ++ (trT r q.2).1)).length : Int), adv ((x :: (q.1 ++ (trT r q.2).1)).length : Int) s) := fun q q1 q2 => by
   rw [q2, Option.bind_some, adv_add (by omega), hrun_in q.2 _ _ h4 hq (fun e he => hc e (List.mem_append_right _ he)) (SOK_adv (by omega) hS) (by omega), adv_add (by omega), List.length_cons, List.length_append]
   congr 2
   ·omega
   ·congr 1; omega
  by_cases e7 : x.1 = 7
  ·have e8 : repOf x = 1 := by unfold repOf; rw [if_neg (by omega)]
   rw [e8, Int.one_mul] at hp
   rw [if_pos e7]
   by_cases em : mg mem x.2.1 = 0
   ·rw [if_pos em]
    exact fin ([], mem) (by simp only [List.length_nil]; omega) (by simp [hrun, adv_zero])
   ·rw [if_neg em]
    exact fin (trT b mem) (by rw [e8, Int.one_mul]; exact tr_len mem h3) (hb mem _ _ (SOK_adv (by omega) hS) (by omega))
  ·have e8 : x.1 = 8 := by simp only [isA, Bool.or_eq_true, beq_iff_eq] at hA; omega
   have hN := may8 h1.1 e8
   have e9 : repOf x = ((x.2.2.2.toNat : Nat) : Int) := by unfold repOf; rw [if_pos e8]; omega
   rw [if_neg e7]
   refine fin (rpt (trT b) x.2.2.2.toNat mem) ?_ ?_
   ·rw [e9]; exact rpt_len (fun m => tr_len m h3) hcb _ _
   ·exact hrun_rpt hcb (fun m => tr_len m h3) hb _ _ _ _ (SOK_adv (by omega) hS) (by rw [← e9]; omega)
theorem piece_ge : ∀ {t : Tr} {d : Nat} {hs : List Int} {ia : Bool} (M : Int) (s : Int × Int), Ok d hs ia t → 1 ≤ M → s.1 ≤ (t.piece M s).1 ∧ s.2 ≤ max (t.piece M s).1 (t.piece M s).2
 | .nil, _, _, _, M, s, _, _ => by simp only [Tr.piece]; omega
 | .one x r, _, _, _, M, s, ⟨_, _, _, h4⟩, hM => by
  rw [Tr.piece]
  split
  ·have := piece_ge (t := r) M (max s.1 (s.2 + M), 0) h4 hM; simp only at this; omega
  ·have := piece_ge (t := r) M (s.1, s.2 + M) h4 hM; simp only at this; omega
 | .lk a b r, _, _, _, M, s, ⟨_, _, h3, h4⟩, hM => by
  rw [Tr.piece]
  have q := piece_ge (t := b) M (s.1, s.2 + M) h3 hM
  have := piece_ge (t := r) M ((b.piece M (s.1, s.2 + M)).1, (b.piece M (s.1, s.2 + M)).2 + M) h4 hM
  simp only at this q; omega
 | .ar x b r, _, _, _, M, s, ⟨hx, _, h3, h4⟩, hM => by
  have hr := repOf_may hx.1
  have hM2 : 1 * 1 ≤ M * repOf x := Int.mul_le_mul hM hr.1 (by omega) (by omega)
  rw [Tr.piece]
  have q := piece_ge (t := b) (M * repOf x) (s.1, s.2 + M) h3 (by omega)
  have := piece_ge (t := r) M (b.piece (M * repOf x) (s.1, s.2 + M)) h4 hM
  simp only at q; omega
theorem hrun_top {cs : List (Int × Int)} {c1 : Int} : ∀ {t : Tr} {d : Nat} (mem : Mem) (p : Int) (s : Sin) (q : Int × Int), Ok d [] false t → (∀ e ∈ t.spans, e ∈ cs) → SOK [] s → p ≤ q.2 → (t.piece 1 q).1 ≤ c1 → (t.piece 1 q).2 ≤ c1 →
  ∃ p', hrun cs c1 (p, s) (trT t mem).1 = some (p', s) ∧ p' ≤ (t.piece 1 q).2
 | .nil, _, mem, p, s, q, _, _, _, hp, _, _ => ⟨p, rfl, hp⟩
 | .one x r, d, mem, p, s, q, ⟨h1, h2, h3, h4⟩, hc, hS, hp, hc1, hc2 => by
  have hs1 : adv 1 s = s := Sin_ext (fun a ha => by rw [sg_adv ha, (hS a ha).2 (by simp)]; rfl)
  simp only [trT]
  simp only [Tr.piece] at hc1 hc2 ⊢
  have hge := piece_ge (t := r) 1 (if x.1 = 11 then (max q.1 (q.2 + 1), 0) else (q.1, q.2 + 1)) h4 (by omega)
  by_cases e : x.1 = 11
  ·rw [if_pos e] at hc1 hc2 hge ⊢
   simp only at hge
   have s1 : hst cs x (p, s) = some (0, adv 1 s) := by unfold hst; rw [if_pos (.inl e)]
   rw [hrun_cons (by omega) s1, hs1]
   exact hrun_top (eff x mem) 0 s _ h4 hc hS (by simp) hc1 hc2
  ·rw [if_neg e] at hc1 hc2 hge ⊢
   simp only at hge
   rw [hrun_cons (by omega) (hst_plain h2.1 h2.2.2.2.1 h2.2.2.2.2 e), hs1]
   exact hrun_top (eff x mem) (p + 1) s _ h4 hc hS (by simp only; omega) hc1 hc2
 | .lk a b r, d, mem, p, s, q, ⟨h1, h2, h3, h4⟩, hc, hS, hp, hc1, hc2 => by
  have hz : ∀ n : Int, adv n s = s := fun n => Sin_ext (fun a ha => by rw [sg_adv ha, (hS a ha).2 (by simp)]; rfl)
  have hcb := cost_nonneg h3
  have hlb := tr_len mem h3
  simp only [Tr.spans] at hc
  simp only [trT]
  have hpb := piece_none 1 (q.1, q.2 + 1) h3 (.inr (by simp))
  simp only [Tr.piece, hpb, Int.one_mul] at hc1 hc2 ⊢
  have hge := piece_ge (t := r) 1 (q.1, q.2 + 1 + b.cost + 1) h4 (by omega)
  simp only at hge
  have s1 : hst cs ((9, a, 0, 0) : I4) (p, s) = some (p + 1, aset (α := Int) 4 s a 1) := by unfold hst; rw [if_neg (by simp), if_pos rfl, hz 1]
  have hS1 : SOK ([] ++ [a]) (aset (α := Int) 4 s a 1) := fun c hcc => by
   rw [sg_set h1 hcc]
   refine ⟨fun hm => ?_, fun hm => ?_⟩
   ·split
    ·omega
    ·rename_i e
     simp only [List.nil_append, List.mem_singleton] at hm
     exact absurd hm e
   ·rw [if_neg (fun e => hm (by rw [e]; simp))]
    exact (hS c hcc).2 (by simp)
  rw [hrun_cons (by omega) s1, hrun_app, hrun_in mem (p + 1) _ h3 (.inr (by simp)) (fun e he => hc e (List.mem_cons_of_mem _ (List.mem_append_left _ he))) hS1 (by omega), Option.bind_some]
  generalize hn : ((trT b mem).1.length : Int) = n at hlb ⊢
  have hn0 : 0 ≤ n := by omega
  have hsg : sg (adv 1 (adv n (aset (α := Int) 4 s a 1))) a = n + 2 := by
   rw [sg_adv h1, sg_adv h1, sg_set h1 h1, if_pos rfl]
   unfold fA; rw [if_pos (by omega), if_pos (by omega)]; omega
  have s2 : hst cs ((10, a, 0, 0) : I4) (p + 1 + n, adv n (aset (α := Int) 4 s a 1)) = some (p + 1 + n + 1, s) := by
   unfold hst
   have hfit : fitsIn cs a (sg (adv 1 (adv n (aset (α := Int) 4 s a 1))) a) = true := by
    unfold fitsIn
    rw [List.any_eq_true]
    refine ⟨(a, b.cost + 1), hc _ List.mem_cons_self, ?_⟩
    rw [hsg]
    simp only [beq_self_eq_true, Bool.true_and, decide_eq_true_eq]; omega
   rw [if_neg (by simp), if_neg (by simp), if_pos rfl, if_pos hfit]
   congr 2
   refine Sin_ext (fun c hcc => ?_)
   rw [sg_set h1 hcc, sg_adv hcc, sg_adv hcc, sg_set h1 hcc]
   split
   ·rename_i e
    subst e
    rw [(hS c hcc).2 (by simp)]
   ·rw [(hS c hcc).2 (by simp)]; rfl
  rw [hrun_cons (by omega) s2]
  exact hrun_top (trT b mem).2 _ s _ h4 (fun e he => hc e (List.mem_cons_of_mem _ (List.mem_append_right _ he))) hS (by simp only; omega) hc1 hc2
 | .ar x b r, d, mem, p, s, q, ⟨h1, h2, h3, h4⟩, hc, hS, hp, hc1, hc2 => by
  have hz : ∀ n : Int, adv n s = s := fun n => Sin_ext (fun a ha => by rw [sg_adv ha, (hS a ha).2 (by simp)]; rfl)
  have hcb := cost_nonneg h3
  have hrep := repOf_may h1.1
  have hrc := Int.mul_nonneg (show 0 ≤ repOf x by omega) hcb
  have hA := h1.2.1
  simp only [Tr.spans] at hc
  simp only [trT]
  have hpb := piece_none (1 * repOf x) (q.1, q.2 + 1) h3 (.inl rfl)
  simp only [Tr.piece, hpb] at hc1 hc2 ⊢
  rw [Int.one_mul] at hc1 hc2 ⊢
  have hge := piece_ge (t := r) 1 (q.1, q.2 + 1 + repOf x * b.cost) h4 (by omega)
  simp only at hge
  rw [hrun_cons (by omega) (hst_plain (fun e => by simp [isA, e] at hA) (fun e => by simp [isA, e] at hA) (fun e => by simp [isA, e] at hA) (fun e => by simp [isA, e] at hA)), hrun_app, hz 1]
  have hb := fun m p s (q1 : SOK [] s) (q2 : p + b.cost ≤ c1) => hrun_in (cs := cs) (c1 := c1) m p s h3 (.inl rfl) (fun e he => hc e (List.mem_append_left _ he)) q1 q2
  have fin : ∀ (u : List I4 × Mem), ((u.1.length : Int) ≤ repOf x * b.cost) → hrun cs c1 (p + 1, s) u.1 = some (p + 1 + (u.1.length : Int), adv (u.1.length : Int) s) →
    ∃ p', (hrun cs c1 (p + 1, s) u.1).bind (fun st => hrun cs c1 st (trT r u.2).1) = some (p', s) ∧ p' ≤ (r.piece 1 (q.1, q.2 + 1 + repOf x * b.cost)).2 := fun u q1 q2 => by
   rw [q2, Option.bind_some, hz]
   exact hrun_top u.2 _ s _ h4 (fun e he => hc e (List.mem_append_right _ he)) hS (by simp only; omega) hc1 hc2
  by_cases e7 : x.1 = 7
  ·have e8 : repOf x = 1 := by unfold repOf; rw [if_neg (by omega)]
   have e9 : repOf x * b.cost = b.cost := by rw [e8, Int.one_mul]
   have hq9 : p + 1 + b.cost ≤ c1 := by omega
   rw [if_pos e7]
   by_cases em : mg mem x.2.1 = 0
   ·rw [if_pos em]
    exact fin ([], mem) (by simp only [List.length_nil]; omega) (by simp [hrun, adv_zero])
   ·rw [if_neg em]
    exact fin (trT b mem) (by rw [e8, Int.one_mul]; exact tr_len mem h3) (hb mem _ _ hS hq9)
  ·have e8 : x.1 = 8 := by simp only [isA, Bool.or_eq_true, beq_iff_eq] at hA; omega
   have hN := may8 h1.1 e8
   have e9 : repOf x = ((x.2.2.2.toNat : Nat) : Int) := by unfold repOf; rw [if_pos e8]; omega
   rw [if_neg e7]
   refine fin (rpt (trT b) x.2.2.2.toNat mem) ?_ ?_
   ·rw [e9]; exact rpt_len (fun m => tr_len m h3) hcb _ _
   ·exact hrun_rpt hcb (fun m => tr_len m h3) hb _ _ _ _ hS (by rw [← e9]; omega)
end Go.Proofs.YtmmagcjlfcicfaaGreat.Ab

/- A hit counts for one tick, whoever runs or nobody. -/
namespace Go.Proofs.YtmmagcjlfcicfaaGreat.Ab
open Go.RowKit Tr
set_option linter.unusedSimpArgs false
set_option linter.unusedVariables false
def PcQ (c1 : Int) : Int → List I4 → Prop
 | p, [] => p + 1 ≤ c1
 | p, x :: r => p + 1 ≤ c1 ∧ PcQ c1 (if x.1 = 11 ∨ x.1 = 0 then 0 else p + 1) r
theorem PcQ.now {c1 p : Int} {tr : List I4} (h : PcQ c1 p tr) : p + 1 ≤ c1 := by
 cases tr with
 | nil => exact h
 | cons x r => exact h.1
theorem PcQ_of {cs : List (Int × Int)} {c1 : Int} : ∀ {tr : List I4} {p p' : Int} {s s' : Sin}, hrun cs c1 (p, s) tr = some (p', s') → p' + 1 ≤ c1 → PcQ c1 p tr
 | [], p, p', s, s', h, hp => by
  rw [hrun] at h
  injection h with h; injection h with h1 h2
  subst h1
  exact hp
 | x :: r, p, p', s, s', h, hp => by
  rw [hrun] at h
  by_cases hc : p + 1 ≤ c1
  ·rw [if_pos hc] at h
   refine ⟨hc, ?_⟩
   unfold hst at h
   by_cases h1 : x.1 = 11 ∨ x.1 = 0
   ·rw [if_pos h1] at h ⊢
    exact PcQ_of h hp
   ·rw [if_neg h1] at h ⊢
    by_cases h2 : x.1 = 9
    ·rw [if_pos h2] at h
     exact PcQ_of h hp
    ·rw [if_neg h2] at h
     by_cases h3 : x.1 = 10
     ·rw [if_pos h3] at h
      split at h
      ·exact PcQ_of h hp
      ·exact absurd h (by simp)
     ·rw [if_neg h3] at h
      exact PcQ_of h hp
  ·rw [if_neg hc] at h; exact absurd h (by simp)
structure JA (t : Tk) (j : Jb) (tr : List I4) (fin : Mem) (q : Nat) (c1 : Int) : Prop where
 jl : JL t j tr fin
 kept : ∃ trK finK, LiveT (codeJ t j.2.2.2.1) j.2.2.2.2.2.1 trK finK ∧ trK.length = tr.length + q
 pc : PcQ c1 (q : Int) tr
theorem JA.prom {t : Tk} {j : Jb} {tr : List I4} {fin : Mem} {q : Nat} {c1 : Int} (h : JA t j tr fin q c1) (now : Int) (bs : List Bd5) : JA t (promJ now bs j) tr fin q c1 := by
 obtain ⟨e1, e2, e3, e4, e5, e6, e7⟩ := promJ_task now bs j
 exact ⟨h.jl.prom now bs, by rw [e4, e6]; exact h.kept, h.pc⟩
theorem JA.go {t : Tk} {j : Jb} {x : I4} {tr : List I4} {fin : Mem} {q : Nat} {c1 : Int} (h : JA t j (x :: tr) fin q c1) : ∃ q2, JA t (goJ t j) tr fin q2 c1 := by
 obtain ⟨e1, e2, e3⟩ := h.jl.m.step
 have hg := h.jl.go
 have hx0 : x.1 ≠ 0 := by
  unfold stepM at e2
  simp only at e2
  rw [e1] at e2
  exact beq_eq_false_iff_ne.1 e2
 obtain ⟨p1, p2⟩ := h.pc
 by_cases h11 : x.1 = 11
 ·refine ⟨0, hg.2, ?_, ?_⟩
  ·show ∃ trK finK, LiveT (codeJ t j.2.2.2.1) (bif (stepX (codeJ t j.2.2.2.1) j.2.2.2.2.1).1 == 11 then stepM (codeJ t j.2.2.2.1) j.2.2.2.2.1 else j.2.2.2.2.2.1) trK finK ∧ _
   rw [e1, h11]
   exact ⟨tr, fin, e3, by omega⟩
  ·rw [if_pos (.inl h11)] at p2; exact p2
 ·refine ⟨q + 1, hg.2, ?_, ?_⟩
  ·show ∃ trK finK, LiveT (codeJ t j.2.2.2.1) (bif (stepX (codeJ t j.2.2.2.1) j.2.2.2.2.1).1 == 11 then stepM (codeJ t j.2.2.2.1) j.2.2.2.2.1 else j.2.2.2.2.2.1) trK finK ∧ _
   rw [e1, beq_eq_false_iff_ne.2 h11, cond_false]
   obtain ⟨trK, finK, k1, k2⟩ := h.kept
   exact ⟨trK, finK, k1, by rw [k2, List.length_cons]; omega⟩
  ·rw [if_neg (by omega)] at p2
   rw [show ((q + 1 : Nat) : Int) = (q : Int) + 1 by omega]; exact p2
theorem goes_onA {now ap : Int} {t : Tk} {bs : List Bd5} {rows : List Int} {j : Jb} {x : I4} {tr : List I4} {fin : Mem} {q : Nat} {c1 : Int} (hj : JA t j (x :: tr) fin q c1) (he : IntKind.i64.wrap (now - j.2.1) ≠ t.2.2.1) :
  ∃ j2 q2, tickM (oneK now ap t bs false [j] rows) = (oneK (IntKind.i64.wrap (now + 1)) ap t bs false [j2] rows, [(now, 2, 0, 0, 0, 0)]) ∧ JA t j2 tr fin q2 c1 ∧ j2.2.1 = j.2.1 ∧ j2.2.2.1 = j.2.2.1 ∧ j2.2.2.2.1 = j.2.2.2.1 := by
 obtain ⟨e1, e2, e3, e4, e5, e6, e7⟩ := promJ_task now bs j
 have hg := (hj.jl.prom now bs).go
 obtain ⟨q2, hq⟩ := (hj.prom now bs).go
 refine ⟨goJ t (promJ now bs j), q2, ?_, hq, e2, e3, e4⟩
 rw [tick_one hj.jl.task he]
 simp only [cond_false]
 unfold goesJ
 rw [hg.1, cond_false]
 rfl
theorem hit_main {now ap : Int} {t : Tk} {bs : List Bd5} {rows : List Int} {j : Jb} {tr : List I4} {fin : Mem} {q : Nat} {c1 : Int} (hj : JA t j tr fin q c1) (hp : j.2.2.2.1 = 0) (hin : inR j.2.2.1) (hw : t.2.2.2.2.1 = [] ∨ GoodP t.2.2.2.2.1) (he : IntKind.i64.wrap (now - j.2.1) ≠ t.2.2.1) :
  ∃ j2 kd tr2 fin2, tickM (oneK now ap t bs true [j] rows) = (oneK (IntKind.i64.wrap (now + 1)) ap t bs false [j2] rows, [(now, 2, 0, 0, 0, 0), (now, kd, 0, 0, 0, 0)]) ∧ (kd = 6 ∨ kd = 7) ∧ JL t j2 tr2 fin2 ∧ j2.2.1 = j.2.1 ∧ j2.2.2.2.1 ≠ 2 ∧
   (t.2.2.2.2.1 = [] ∧ tr2.length = tr.length + q ∨ ∃ u : Tr, t.2.2.2.2.1 = u.prog ∧ Ok 0 [] false u ∧ u.len < 24 ∧ (tr2.length : Int) ≤ u.cost) := by
 obtain ⟨e1, e2, e3, e4, e5, e6, e7⟩ := promJ_task now bs j
 have hj2 := hj.prom now bs
 rw [tick_one hj.jl.task he]
 simp only [cond_true]
 generalize promJ now bs j = jj at e1 e2 e3 e4 e5 e6 e7 hj2 ⊢
 have h1 : jj.1 = 0 := hj2.jl.task
 have hph : jj.2.2.2.1 = 0 := by rw [e4, hp]
 unfold hitJ
 rw [show (jj.2.2.2.1 == 2) = false from by rw [hph]; rfl, show (jj.2.2.2.1 == 0) = true from by rw [hph]; rfl, h1]
 simp only [cond_false, Bool.true_and]
 rcases hw with hw | ⟨u, hu, hu1, hu2, hu3⟩
 ·rw [hw]
  simp only [List.length_nil]
  rw [decide_eq_false (by omega)]
  simp only [cond_false]
  obtain ⟨trK, finK, k1, k2⟩ := hj2.kept
  have eb : backJ t jj = (jj.1, jj.2.1, jj.2.2.1, jj.2.2.2.1, jj.2.2.2.2.2.1, jj.2.2.2.2.2.1, [], jj.2.2.2.2.2.2.2) := by
   unfold backJ
   rw [hw]
   simp only [List.length_nil]
   rw [decide_eq_false (by omega), Bool.and_false, cond_false]
  rw [eb]
  refine ⟨_, 6, trK, finK, rfl, .inl rfl, ⟨h1, rfl, hj2.jl.phase, k1, trK, finK, k1⟩, e2, by show jj.2.2.2.1 ≠ 2; rw [hph]; decide, .inl ⟨trivial, k2⟩⟩
 ·have hlen : 0 < t.2.2.2.2.1.length := by rw [hu, prog_len]; omega
  rw [decide_eq_true (by omega)]
  simp only [cond_true]
  have eb : backJ t jj = (jj.1, jj.2.1, jj.2.2.1, 1, newM jj.2.2.1, newM jj.2.2.1, [], jj.2.2.2.2.2.2.2) := by
   unfold backJ
   rw [hph, decide_eq_true (show (t.2.2.2.2.1.length : Int) > 0 by omega)]; rfl
  rw [eb]
  have hl := live_new hu1 hu2 hu3 (a := jj.2.2.1) (by rw [e3]; exact hin)
  refine ⟨_, 7, _, _, rfl, .inr rfl, ⟨h1, rfl, by show (0 : Int) ≤ 1 ∧ (1 : Int) ≤ 2; omega, by rw [show codeJ t (1 : Int) = t.2.2.2.2.1 from rfl, hu]; exact hl, _, _, by rw [show codeJ t (1 : Int) = t.2.2.2.2.1 from rfl, hu]; exact hl⟩, e2, by show (1 : Int) ≠ 2; decide, .inr ⟨u, hu, hu1, hu2, tr_len _ hu1⟩⟩
def cD (l : List Ev) : Nat := l.countP (fun e => e.2.1 == 3)
def cL (l : List Ev) : Nat := l.countP (fun e => e.2.1 == 6 || e.2.1 == 7)
theorem L7_30_eq {k : Nat} {g : Int → Int → Int → Int → Int → (List I4) → (List I4) → Int → Int → (List Tk) → (List Bd5) → Bool → Bool → Bool → (List Jb) → (List Int) → (List Bool) → (List Thg) → (List Int) → (List Bool) → Int → Int → Int → Option ((Bool × Unit) × Unit)} {a w t1 t2 t3 now ap : Int} {c1 c2 : List I4} {ts : List Tk} {bs : List Bd5} {ru ha hi : Bool} {js : List Jb} {s : List Int} {i : List Bool} {l : List Thg} {rows : List Int} {off : List Bool} {x : Int} {ev : List Ev} (hl : ev.length ≤ 10) (h5 : ∀ e ∈ ev, e.2.1 ≠ 5) : ∀ (d n fu : Nat) (done lost : Nat), n + d = ev.length → d < fu → done + lost + d ≤ 100 →
  L7_30 k g fu a w t1 t2 t3 c1 c2 now ap ts bs ru ha hi js s i l rows off (done : Int) (lost : Int) x ev (n : Int) = g a w t1 t2 t3 c1 c2 now ap ts bs ru ha hi js s i l rows off ((done + cD (ev.drop n) : Nat) : Int) ((lost + cL (ev.drop n) : Nat) : Int) (IntKind.i64.wrap (x + 1))
 | 0, n, fu, done, lost, h, hf, hb => by
  obtain ⟨f, rfl⟩ : ∃ f, fu = f + 1 := ⟨fu - 1, by omega⟩
  rw [L7_30_s, l7_30, bif_f (by omega), drop_nil (by omega)]
  rfl
 | d + 1, n, fu, done, lost, h, hf, hb => by
  obtain ⟨f, rfl⟩ : ∃ f, fu = f + 1 := ⟨fu - 1, by omega⟩
  have hn : n < ev.length := by omega
  have hx := h5 _ (getD_mem (z := prep (α := Int) 6 0) hn)
  rw [L7_30_s, l7_30, bif_t (by omega), ix_nat hn, rd_nat, drop_cons (prep (α := Int) 6 0) hn, w64_nat (by omega), w64_nat (by omega), w64_nat (by omega)]
  unfold cD cL
  rw [List.countP_cons, List.countP_cons]
  generalize ev.getD n (prep (α := Int) 6 0) = e at hx ⊢
  cases h3 : e.2.1 == 3 with
  | true =>
   have : e.2.1 = 3 := by simpa using h3
   rw [cond_true, L7_30_eq hl h5 d (n + 1) f (done + 1) lost (by omega) (by omega) (by omega), this]
   unfold cD cL
   rw [show done + 1 + List.countP (fun (e : Ev) => e.2.1 == 3) (ev.drop (n + 1)) = done + (List.countP (fun (e : Ev) => e.2.1 == 3) (ev.drop (n + 1)) + 1) by omega]
   rfl
  | false =>
   rw [cond_false]
   cases h6 : e.2.1 == 6 with
   | true =>
    rw [cond_true, L7_30_eq hl h5 d (n + 1) f done (lost + 1) (by omega) (by omega) (by omega)]
    unfold cD cL
    rw [show lost + 1 + List.countP (fun (e : Ev) => e.2.1 == 6 || e.2.1 == 7) (ev.drop (n + 1)) = lost + (List.countP (fun (e : Ev) => e.2.1 == 6 || e.2.1 == 7) (ev.drop (n + 1)) + 1) by omega]
    rfl
   | false =>
    rw [cond_false]
    cases h7 : e.2.1 == 7 with
    | true =>
     rw [cond_true, L7_30_eq hl h5 d (n + 1) f done (lost + 1) (by omega) (by omega) (by omega)]
     unfold cD cL
     rw [show lost + 1 + List.countP (fun (e : Ev) => e.2.1 == 6 || e.2.1 == 7) (ev.drop (n + 1)) = lost + (List.countP (fun (e : Ev) => e.2.1 == 6 || e.2.1 == 7) (ev.drop (n + 1)) + 1) by omega]
     rfl
    | false =>
     rw [cond_false, beq_eq_false_iff_ne.2 hx, cond_false, L7_30_eq hl h5 d (n + 1) f done lost (by omega) (by omega) (by omega)]
     unfold cD cL
     rfl
end Go.Proofs.YtmmagcjlfcicfaaGreat.Ab

/- A hit counts for one tick, whoever runs or nobody: the law. -/
namespace Go.Proofs.YtmmagcjlfcicfaaGreat.Ab
open Go.RowKit Tr
set_option linter.unusedSimpArgs false
set_option linter.unusedVariables false
theorem step25 {k : Nat} (hk : 1000 ≤ k) {g : Int → Int → Int → Int → Int → (List I4) → (List I4) → Int → Int → (List Tk) → (List Bd5) → Bool → Bool → Bool → (List Jb) → (List Int) → (List Bool) → (List Thg) → (List Int) → (List Bool) → Int → Int → Int → Option ((Bool × Unit) × Unit)} {a w t1 t2 t3 now now2 ap x : Int} {c1 c2 : List I4} {t : Tk} {bs : List Bd5} {hi : Bool} {js js2 : List Jb} {rows rows2 : List Int} {ev : List Ev} {done lost : Nat}
  (hki : KI (oneK now ap t bs hi js rows)) (e : tickM (oneK now ap t bs hi js rows) = (oneK now2 ap t bs false js2 rows2, ev)) (hl : ev.length ≤ 10) (h5 : ∀ e ∈ ev, e.2.1 ≠ 5) (hb : done + lost ≤ 80) :
  j7_25 k g a w t1 t2 t3 c1 c2 now ap [t] bs true false hi js TK0.1.1 TK0.1.2 TK0.2 rows [false] (done : Int) (lost : Int) x = g a w t1 t2 t3 c1 c2 now2 ap [t] bs true false false js2 TK0.1.1 TK0.1.2 TK0.2 rows2 [false] ((done + cD ev : Nat) : Int) ((lost + cL ev : Nat) : Int) (IntKind.i64.wrap (x + 1)) := by
 have et := tick_eqT hk hki e
 unfold oneK at et
 unfold j7_25
 rw [show S23 k (now, ap, [t], bs, true, false, hi, js, ((TK0.1.1, TK0.1.2), TK0.2), rows, [false]) = _ from et, Option.bind_some]
 simp only [cond_false]
 have := L7_30_eq (k := k) (g := g) (a := a) (w := w) (t1 := t1) (t2 := t2) (t3 := t3) (now := now2) (ap := ap) (c1 := c1) (c2 := c2) (ts := [t]) (bs := bs) (ru := true) (ha := false) (hi := false) (js := js2) (s := TK0.1.1) (i := TK0.1.2) (l := TK0.2) (rows := rows2) (off := [false]) (x := x) hl h5 ev.length 0 k done lost (by omega) (by omega) (by omega)
 rw [List.drop_zero] at this
 exact this
theorem wayC {k : Nat} (hk : 20000 ≤ k) {t : Tk} {a w ap : Int} {bs : List Bd5} {h T E : Nat} (hL : lightL [t]) (hb : bs.length = 1) (hw : IntKind.i64.wrap (Int.tmod w 60) = (h : Int)) {v : Int} (hrun : S29 k t.2.2.2.1 a = some ((v, (T : Int), true, ()), ())) (hE : t.2.2.1 = (E : Int)) (hTE : T ≤ E) (hE2 : E ≤ 1000) {lost : Nat} (hend : lost = 1 ∧ h < T ∨ lost = 0 ∧ T ≤ h) : ∀ (d i fu : Nat) (rows : List Int), i + d = E → d < fu → rows.length = 1 →
  L7_21 k fu a w t.1 t.2.1 t.2.2.1 t.2.2.2.1 t.2.2.2.2.1 (i : Int) ap [t] bs true false false [] TK0.1.1 TK0.1.2 TK0.2 rows [false] 1 (lost : Int) (i : Int) = some ((true, ()), ())
 | 0, i, fu, rows, hi, hf, hr => by
  obtain ⟨f, rfl⟩ : ∃ f, fu = f + 1 := ⟨fu - 1, by omega⟩
  rw [L7_21_s, l7_21, bif_f (by omega), hrun, Option.bind_some, hw]
  simp only
  unfold j7_42
  rcases hend with ⟨rfl, h1⟩ | ⟨rfl, h1⟩
  ·rw [bif_t (by omega), decide_eq_true (show (h : Int) < t.2.2.1 by omega)]; rfl
  ·rw [bif_f (by omega)]; rfl
 | d + 1, i, fu, rows, hi, hf, hr => by
  obtain ⟨f, rfl⟩ : ∃ f, fu = f + 1 := ⟨fu - 1, by omega⟩
  have ih := wayC hk (a := a) (w := w) (ap := ap) hL hb hw hrun hE hTE hE2 hend d (i + 1) f rows (by omega) (by omega) hr
  have hs : ∀ hi : Bool, j7_25 k (L7_21 k f) a w t.1 t.2.1 t.2.2.1 t.2.2.2.1 t.2.2.2.2.1 (i : Int) ap [t] bs true false hi [] TK0.1.1 TK0.1.2 TK0.2 rows [false] 1 (lost : Int) (i : Int) = some ((true, ()), ()) := fun hi => by
   have := step25 (g := L7_21 k f) (a := a) (w := w) (t1 := t.1) (t2 := t.2.1) (t3 := t.2.2.1) (c1 := t.2.2.2.1) (c2 := t.2.2.2.2.1) (x := (i : Int)) (done := 1) (lost := lost) (by omega : 1000 ≤ k) (one_ki (now := (i : Int)) (ap := ap) (hi := hi) hL hb hr) (tick_none (i : Int) ap t bs hi rows) (by simp) (fun e he => by cases he) (by omega)
   rw [w64_nat (by omega)] at this
   exact this.trans ih
  rw [L7_21_s, l7_21, bif_t (by omega), hs, hs]
  cases ((i : Int) == IntKind.i64.wrap (Int.tmod w 60)) <;> rfl
theorem wayB {k : Nat} (hk : 20000 ≤ k) {t : Tk} {a w ap : Int} {bs : List Bd5} {h T E : Nat} (hL : lightL [t]) (hb : bs.length = 1) (hw : IntKind.i64.wrap (Int.tmod w 60) = (h : Int)) {v : Int} (hrun : S29 k t.2.2.2.1 a = some ((v, (T : Int), true, ()), ())) (hE : t.2.2.1 = (E : Int)) (hTE : T ≤ E) (hE2 : E ≤ 1000) (hopt : t.2.2.2.2.2 = []) (hT : h < T) : ∀ (d i fu : Nat) (tr : List I4) (fin : Mem) (j : Jb) (rows : List Int), tr.length = d → i + d + 1 ≤ E → h < i → E + 1 < fu + i → rows.length = 1 → JL t j tr fin → j.2.1 = 0 → j.2.2.2.1 ≠ 2 →
  L7_21 k fu a w t.1 t.2.1 t.2.2.1 t.2.2.2.1 t.2.2.2.2.1 (i : Int) ap [t] bs true false false [j] TK0.1.1 TK0.1.2 TK0.2 rows [false] 0 1 (i : Int) = some ((true, ()), ())
 | d, i, fu, tr, fin, j, rows, hd, hi, hhi, hf, hr, hj, hat, hp => by
  obtain ⟨f, rfl⟩ : ∃ f, fu = f + 1 := ⟨fu - 1, by omega⟩
  have hnow : IntKind.i64.wrap ((i : Int) + 1) = ((i + 1 : Nat) : Int) := w64_nat (by omega)
  have hend : IntKind.i64.wrap ((i : Int) - j.2.1) ≠ t.2.2.1 := by rw [hat, w64 (by omega) (by omega)]; omega
  have hki : KI (oneK (i : Int) ap t bs false [j] rows) := one_kij hL hb hr hj.gok
  rw [L7_21_s, l7_21, bif_t (by omega), hw, beq_eq_false_iff_ne.2 (show (i : Int) ≠ (h : Int) by omega), cond_false]
  cases tr with
  | nil =>
   obtain ⟨j2, more, e, hm, hml⟩ := goes_done (now := (i : Int)) (ap := ap) (bs := bs) (rows := rows) hj hp hend
   rw [hnow, hopt] at e
   simp only [List.length_nil] at e
   have hcnt : cD more = 0 ∧ cL more = 0 := by
    unfold cD cL
    rw [List.countP_eq_zero, List.countP_eq_zero]
    exact ⟨fun e he => by rw [hm e he]; decide, fun e he => by rw [hm e he]; decide⟩
   have := step25 (g := L7_21 k f) (a := a) (w := w) (t1 := t.1) (t2 := t.2.1) (t3 := t.2.2.1) (c1 := t.2.2.2.1) (c2 := t.2.2.2.2.1) (x := (i : Int)) (done := 0) (lost := 1) (by omega : 1000 ≤ k) hki e (by simp; omega) (fun e he => by
    simp only [List.cons_append, List.nil_append, List.mem_cons] at he
    rcases he with rfl | rfl | he
    ·show (2 : Int) ≠ 5; decide
    ·show (3 : Int) ≠ 5; decide
    ·rw [hm e he]; decide) (by omega)
   refine this.trans ?_
   have hc1 : cD ([((i : Int), 2, 0, 0, 0, 0), ((i : Int), 3, 0, 0, fin.1, 0)] ++ more) = 1 := by
    have := hcnt.1
    unfold cD at this ⊢
    rw [List.countP_append, this]; rfl
   have hc2 : cL ([((i : Int), 2, 0, 0, 0, 0), ((i : Int), 3, 0, 0, fin.1, 0)] ++ more) = 0 := by
    have := hcnt.2
    unfold cL at this ⊢
    rw [List.countP_append, this]; rfl
   rw [hc1, hc2, hnow]
   exact wayC hk hL hb hw hrun hE hTE hE2 (lost := 1) (.inl ⟨rfl, hT⟩) (E - (i + 1)) (i + 1) f (rows.set 0 0) (by omega) (by omega) (by simpa using hr)
  | cons x tr =>
   obtain ⟨d', rfl⟩ : ∃ d', d = d' + 1 := ⟨d - 1, by simp only [List.length_cons] at hd; omega⟩
   obtain ⟨j2, e, hj2, g1, g2, g3⟩ := goes_on (now := (i : Int)) (ap := ap) (bs := bs) (rows := rows) hj hend
   rw [hnow] at e
   have := step25 (g := L7_21 k f) (a := a) (w := w) (t1 := t.1) (t2 := t.2.1) (t3 := t.2.2.1) (c1 := t.2.2.2.1) (c2 := t.2.2.2.2.1) (x := (i : Int)) (done := 0) (lost := 1) (by omega : 1000 ≤ k) hki e (by simp) (fun e he => by
    rw [List.mem_singleton] at he; rw [he]; show (2 : Int) ≠ 5; decide) (by omega)
   refine this.trans ?_
   rw [hnow]
   exact wayB hk hL hb hw hrun hE hTE hE2 hopt hT d' (i + 1) f tr fin j2 rows (by simpa using hd) (by omega) (by omega) (by omega) hr hj2 (by rw [g1, hat]) (by rw [g3]; exact hp)
theorem wayA {k : Nat} (hk : 20000 ≤ k) {t : Tk} {a w ap : Int} {bs : List Bd5} {h T E : Nat} (hL : lightL [t]) (hb : bs.length = 1) (hw : IntKind.i64.wrap (Int.tmod w 60) = (h : Int)) {v : Int} (hrun : S29 k t.2.2.2.1 a = some ((v, (T : Int), true, ()), ())) (hE : t.2.2.1 = (E : Int)) (hTE : T ≤ E) (hE2 : E ≤ 1000) (hopt : t.2.2.2.2.2 = []) (ha : inR a) {c1 : Int} (hway : t.2.2.2.2.1 = [] ∧ (T : Int) + c1 ≤ (E : Int) ∨ ∃ u : Tr, t.2.2.2.2.1 = u.prog ∧ Ok 0 [] false u ∧ u.len < 24 ∧ (∀ x ∈ u.flat, x.1 ≠ 9) ∧ (T : Int) + (u.cost + 1) ≤ (E : Int)) : ∀ (d i fu : Nat) (tr : List I4) (fin : Mem) (q : Nat) (j : Jb) (rows : List Int), tr.length = d → i + d + 1 = T → i ≤ h → E + 1 < fu + i → rows.length = 1 → JA t j tr fin q c1 → j.2.1 = 0 → j.2.2.1 = a → j.2.2.2.1 = 0 →
  L7_21 k fu a w t.1 t.2.1 t.2.2.1 t.2.2.2.1 t.2.2.2.2.1 (i : Int) ap [t] bs true false false [j] TK0.1.1 TK0.1.2 TK0.2 rows [false] 0 0 (i : Int) = some ((true, ()), ())
 | d, i, fu, tr, fin, q, j, rows, hd, hi, hhi, hf, hr, hj, hat, hin, hp => by
  obtain ⟨f, rfl⟩ : ∃ f, fu = f + 1 := ⟨fu - 1, by omega⟩
  have hnow : IntKind.i64.wrap ((i : Int) + 1) = ((i + 1 : Nat) : Int) := w64_nat (by omega)
  have hend : IntKind.i64.wrap ((i : Int) - j.2.1) ≠ t.2.2.1 := by rw [hat, w64 (by omega) (by omega)]; omega
  have hki : ∀ hi : Bool, KI (oneK (i : Int) ap t bs hi [j] rows) := fun hi => one_kij hL hb hr hj.jl.gok
  have hp2 : j.2.2.2.1 ≠ 2 := by rw [hp]; decide
  rw [L7_21_s, l7_21, bif_t (by omega), hw]
  by_cases he : i = h
  ·have hc1 := hj.pc.now
   rw [show ((i : Int) == (h : Int)) = true by rw [he]; simp, cond_true]
   obtain ⟨j2, kd, tr2, fin2, e, hkd, hj2, g1, g2, g3⟩ := hit_main (now := (i : Int)) (ap := ap) (bs := bs) (rows := rows) hj hp (by rw [hin]; exact ha) (by rcases hway with ⟨z, _⟩ | ⟨u, u1, u2, u3, u4, _⟩; exact .inl z; exact .inr ⟨u, u1, u2, u3, u4⟩) hend
   rw [hnow] at e
   have := step25 (g := L7_21 k f) (a := a) (w := w) (t1 := t.1) (t2 := t.2.1) (t3 := t.2.2.1) (c1 := t.2.2.2.1) (c2 := t.2.2.2.2.1) (x := (i : Int)) (done := 0) (lost := 0) (by omega : 1000 ≤ k) (hki true) e (by simp) (fun e he => by
    simp only [List.mem_cons, List.not_mem_nil, or_false] at he
    rcases he with rfl | rfl
    ·show (2 : Int) ≠ 5; decide
    ·show kd ≠ 5; rcases hkd with rfl | rfl <;> decide) (by omega)
   refine this.trans ?_
   have hcc : cD [((i : Int), 2, 0, 0, 0, 0), ((i : Int), kd, 0, 0, 0, 0)] = 0 ∧ cL [((i : Int), 2, 0, 0, 0, 0), ((i : Int), kd, 0, 0, 0, 0)] = 1 := by
    rcases hkd with rfl | rfl <;> exact ⟨rfl, rfl⟩
   rw [hcc.1, hcc.2, hnow]
   refine wayB hk hL hb hw hrun hE hTE hE2 hopt (by omega) tr2.length (i + 1) f tr2 fin2 j2 rows rfl ?_ (by omega) (by omega) hr hj2 (by rw [g1, hat]) g2
   rcases g3 with ⟨z1, z2⟩ | ⟨u, u1, u2, u3, u4⟩
   ·rcases hway with ⟨y1, y2⟩ | ⟨u, u1, _⟩
    ·omega
    ·rw [z1] at u1
     have := congrArg List.length u1
     rw [prog_len] at this
     simp at this
   ·rcases hway with ⟨y1, y2⟩ | ⟨u', u1', u2', u3', u4', u5'⟩
    ·rw [y1] at u1
     have := congrArg List.length u1
     rw [prog_len] at this
     simp at this
    ·have hcu := cst_tree u2 u3
     have hcu' := cst_tree u2' u3'
     rw [← u1] at hcu
     rw [← u1', hcu] at hcu'
     have : u.cost + 1 = u'.cost + 1 := congrArg (fun x : Int × Int × List (Int × Int) => x.1) hcu'
     omega
  ·rw [beq_eq_false_iff_ne.2 (show (i : Int) ≠ (h : Int) by omega), cond_false]
   cases tr with
   | nil =>
    obtain ⟨j2, more, e, hm, hml⟩ := goes_done (now := (i : Int)) (ap := ap) (bs := bs) (rows := rows) hj.jl hp2 hend
    rw [hnow, hopt] at e
    simp only [List.length_nil] at e
    have hcnt : cD more = 0 ∧ cL more = 0 := by
     unfold cD cL
     rw [List.countP_eq_zero, List.countP_eq_zero]
     exact ⟨fun e he => by rw [hm e he]; decide, fun e he => by rw [hm e he]; decide⟩
    have := step25 (g := L7_21 k f) (a := a) (w := w) (t1 := t.1) (t2 := t.2.1) (t3 := t.2.2.1) (c1 := t.2.2.2.1) (c2 := t.2.2.2.2.1) (x := (i : Int)) (done := 0) (lost := 0) (by omega : 1000 ≤ k) (hki false) e (by simp; omega) (fun e he => by
     simp only [List.cons_append, List.nil_append, List.mem_cons] at he
     rcases he with rfl | rfl | he
     ·show (2 : Int) ≠ 5; decide
     ·show (3 : Int) ≠ 5; decide
     ·rw [hm e he]; decide) (by omega)
    refine this.trans ?_
    have hc1 : cD ([((i : Int), 2, 0, 0, 0, 0), ((i : Int), 3, 0, 0, fin.1, 0)] ++ more) = 1 := by
     have := hcnt.1
     unfold cD at this ⊢
     rw [List.countP_append, this]; rfl
    have hc2 : cL ([((i : Int), 2, 0, 0, 0, 0), ((i : Int), 3, 0, 0, fin.1, 0)] ++ more) = 0 := by
     have := hcnt.2
     unfold cL at this ⊢
     rw [List.countP_append, this]; rfl
    rw [hc1, hc2, hnow]
    have hd0 : d = 0 := by simpa using hd.symm
    exact wayC hk hL hb hw hrun hE hTE hE2 (lost := 0) (.inr ⟨rfl, by omega⟩) (E - (i + 1)) (i + 1) f (rows.set 0 0) (by omega) (by omega) (by simpa using hr)
   | cons x tr =>
    obtain ⟨d', rfl⟩ : ∃ d', d = d' + 1 := ⟨d - 1, by simp only [List.length_cons] at hd; omega⟩
    obtain ⟨j2, q2, e, hj2, g1, g2, g3⟩ := goes_onA (now := (i : Int)) (ap := ap) (bs := bs) (rows := rows) hj hend
    rw [hnow] at e
    have := step25 (g := L7_21 k f) (a := a) (w := w) (t1 := t.1) (t2 := t.2.1) (t3 := t.2.2.1) (c1 := t.2.2.2.1) (c2 := t.2.2.2.2.1) (x := (i : Int)) (done := 0) (lost := 0) (by omega : 1000 ≤ k) (hki false) e (by simp) (fun e he => by
     rw [List.mem_singleton] at he; rw [he]; show (2 : Int) ≠ 5; decide) (by omega)
    refine this.trans ?_
    rw [hnow]
    exact wayA hk hL hb hw hrun hE hTE hE2 hopt ha hway d' (i + 1) f tr fin q2 j2 rows (by simpa using hd) (by omega) (by omega) (by omega) hr hj2 (by rw [g1, hat]) (by rw [g2, hin]) (by rw [g3, hp])
theorem MT.noOpt {locks r : Int} {t : Tk} (h : MT locks r t) : MT locks r (t.1, t.2.1, t.2.2.1, t.2.2.2.1, t.2.2.2.2.1, []) := ⟨h.rank, h.per, h.en, h.main, h.way, .inl rfl⟩
theorem kernHit_pure {p : List Int} {a w : Int} {e : TypeId} (hp : Ty.fine (.sl e (.int .u8)) p) (ha : inR a) (hwt : 0 ≤ w ∧ w ≤ 255) {k : Nat} (hk : 20000 ≤ k) : S7 k p a w = some ((true, ()), ()) := by
 unfold S7
 rw [S9_eq hk]
 simp only [Option.bind_some, Bool.not_true, cond_false]
 by_cases h : (p.length : Int) > 150
 ·rw [bif_t h]
 ·rw [bif_f h]
  unfold S17
  rw [Option.bind_some]
  simp only
  obtain ⟨t', n', e1, hp1, hm'⟩ := S27_eq (k := k) (by omega) (rank := 1) (locks := 0) (by omega) (picks_ok hp (show p.length ≤ 1000 by omega))
  rw [e1, Option.bind_some]
  simp only
  have hm := hm'.noOpt
  have hopt : (t'.1, t'.2.1, t'.2.2.1, t'.2.2.2.1, t'.2.2.2.2.1, ([] : List I4)).2.2.2.2.2 = [] := rfl
  rw [show t'.1 = (t'.1, t'.2.1, t'.2.2.1, t'.2.2.2.1, t'.2.2.2.2.1, ([] : List I4)).1 from rfl, show t'.2.1 = (t'.1, t'.2.1, t'.2.2.1, t'.2.2.2.1, t'.2.2.2.2.1, ([] : List I4)).2.1 from rfl, show t'.2.2.1 = (t'.1, t'.2.1, t'.2.2.1, t'.2.2.2.1, t'.2.2.2.2.1, ([] : List I4)).2.2.1 from rfl, show t'.2.2.2.1 = (t'.1, t'.2.1, t'.2.2.1, t'.2.2.2.1, t'.2.2.2.2.1, ([] : List I4)).2.2.2.1 from rfl, show t'.2.2.2.2.1 = (t'.1, t'.2.1, t'.2.2.1, t'.2.2.2.1, t'.2.2.2.2.1, ([] : List I4)).2.2.2.2.1 from rfl]
  generalize (t'.1, t'.2.1, t'.2.2.1, t'.2.2.2.1, t'.2.2.2.2.1, ([] : List I4)) = t at hm hopt ⊢
  have hT := hm.both
  have hin := S28_eq hk (l := []) (t := t) ⟨⟨by simp, fun t h => by cases h⟩, by simp, hT⟩ (fun a b hab hb => by simp at hb) 5000
  rw [hin, Option.bind_some, new1000 (by omega) (by omega) (by omega), Option.bind_some]
  simp only [Bool.not_true, cond_false]
  by_cases he : (inT [] t 5000).2.2 = 0
  ·obtain ⟨hz, g1, ⟨b, g2, _⟩, y, y1, y2, y3⟩ := adm_one hT he
   obtain ⟨hg1, hg2, hg3⟩ := hm.noL hz
   obtain ⟨m, em, hM, hml0⟩ := hm.main
   have hml : m.len < 24 := by omega
   have hmo := hM.ok
   have h9 := no9 hmo hM.free
   have hct := cst_tree hmo hml
   have hcost : (costsT t).1 = m.cost + 1 := by
    unfold costsT
    rw [if_pos hz, em, hct]
   have hlost : (costsT t).2.1 = bif mayA t.2.2.2.2.1 then (cst t.2.2.2.2.1).1 else max (m.piece 1 (0, 0)).1 ((m.piece 1 (0, 0)).2 + 1) := by
    unfold costsT
    rw [if_pos hz, em, hct]
   have htl := tr_len (mem0 a) hmo
   have hcs := cost_small hmo hml
   have hEb := hm.en
   have hPb := hm.per
   obtain ⟨E, hE⟩ : ∃ E : Nat, t.2.2.1 = (E : Int) := ⟨t.2.2.1.toNat, by omega⟩
   have hup := up_pos (r := y) (v := 5000) (by omega) (by omega)
   have hmx : mx 0 (costsT t).2.1 = max 0 (costsT t).2.1 := mx_eq _ _
   have hsum : (costsT t).1 + max 0 (costsT t).2.1 ≤ (E : Int) := by
    have := Int.mul_le_mul_of_nonneg_right hup (show 0 ≤ max 0 (costsT t).2.1 by omega)
    rw [hmx] at y3
    omega
   rw [he, g1, g2]
   simp only [bne_self_eq_false, cond_false]
   rw [start_one (by omega) (light_one hT) rfl (noLocks hg1 hg2), Option.bind_some]
   simp only [bne_self_eq_false, cond_false]
   rw [mk_ok (by omega) (by omega), mk_ok (by omega) (by omega)]
   have hki : KI (oneK 0 5000 t [b] false [] [0]) := one_ki (light_one hT) rfl rfl
   have er := S20_eq (by omega : 1000 ≤ k) hki 0 a
   rw [rel_one] at er
   rw [show S20 k (0, 5000, [t], [b], true, false, false, [], TK0, List.replicate 1 0, List.replicate 1 false) 0 a = _ from er, Option.bind_some]
   simp only [bne_self_eq_false, cond_false]
   have hrun := S29_tree hk hmo hml ha
   rw [← em] at hrun
   have hw : IntKind.i64.wrap (Int.tmod w 60) = ((w.toNat % 60 : Nat) : Int) := by
    rw [Int.tmod_eq_emod_of_nonneg hwt.1, w64 (by omega) (by omega)]; omega
   have hlive := live_new hmo hml h9 ha
   have hj : JL t (newJ 0 0 a) (trT m (mem0 a)).1 (trT m (mem0 a)).2 := ⟨rfl, rfl, by unfold newJ; simp, by rw [show codeJ t (newJ 0 0 a).2.2.2.1 = t.2.2.2.1 from rfl, em]; exact hlive, _, _, by rw [show codeJ t (newJ 0 0 a).2.2.2.1 = t.2.2.2.1 from rfl, em]; exact hlive⟩
   have hS : SOK [] ((0, 0, 0, 0) : Sin) := fun c hcc => ⟨fun q => (by cases q), fun _ => by
    rcases four hcc with rfl | rfl | rfl | rfl <;> rfl⟩
   obtain ⟨p', r1, r2⟩ := hrun_top (cs := m.spans) (c1 := max (m.piece 1 (0, 0)).1 ((m.piece 1 (0, 0)).2 + 1)) (mem0 a) 0 (0, 0, 0, 0) (0, 0) hmo (fun e he => he) hS (by simp) (by omega) (by omega)
   have hpc : PcQ (max (m.piece 1 (0, 0)).1 ((m.piece 1 (0, 0)).2 + 1)) ((0 : Nat) : Int) (trT m (mem0 a)).1 := PcQ_of r1 (by omega)
   have hja : JA t (newJ 0 0 a) (trT m (mem0 a)).1 (trT m (mem0 a)).2 0 (max (m.piece 1 (0, 0)).1 ((m.piece 1 (0, 0)).2 + 1)) := ⟨hj, ⟨_, _, by rw [show codeJ t (newJ 0 0 a).2.2.2.1 = t.2.2.2.1 from rfl, em]; exact hlive, rfl⟩, hpc⟩
   have hway : t.2.2.2.2.1 = [] ∧ (((trT m (mem0 a)).1.length + 1 : Nat) : Int) + max (m.piece 1 (0, 0)).1 ((m.piece 1 (0, 0)).2 + 1) ≤ (E : Int) ∨ ∃ u : Tr, t.2.2.2.2.1 = u.prog ∧ Ok 0 [] false u ∧ u.len < 24 ∧ (∀ x ∈ u.flat, x.1 ≠ 9) ∧ (((trT m (mem0 a)).1.length + 1 : Nat) : Int) + (u.cost + 1) ≤ (E : Int) := by
    rcases hg2 with z | ⟨u, u1, u2, u3, u4⟩
    ·left
     refine ⟨z, ?_⟩
     rw [z, mayA_nil, cond_false] at hlost
     omega
    ·right
     refine ⟨u, u1, u2, u3, u4, ?_⟩
     rw [u1, may_tree u2 u3, cond_true, cst_tree u2 u3] at hlost
     simp only at hlost
     omega
   exact wayA hk (light_one hT) rfl hw (T := (trT m (mem0 a)).1.length + 1) hrun hE (by omega) (by omega) hopt ha hway (trT m (mem0 a)).1.length 0 k _ _ 0 _ [0] rfl (by omega) (by omega) (by omega) rfl hja rfl rfl rfl
  ·rw [show ((inT [] t 5000).2.2 != 0) = true from bne_iff_ne.2 he, cond_true]
theorem kernHit_law {e : TypeId} (p : List Int) (a w : Int) (hp : Ty.fine (.sl e (.int .u8)) p) (ha : Ty.fine (.int .i64) a) (hw : Ty.fine (.int .u8) w) : ∃ k, S7 k p a w = some ((true, ()), ()) := ⟨20000, kernHit_pure hp (wf_i64 ha) (wf_u8e hw) (by omega)⟩
end Go.Proofs.YtmmagcjlfcicfaaGreat.Ab
