import Derived.Test.YtjnnjciedbgmiaaQMG
/- What pairs are: each lock has its own, one in the other or apart. -/
namespace Go.Proofs.Ytjnnjciedbgmiaa.Ab
open Go.RowKit Tr
set_option linter.unusedSimpArgs false
set_option linter.unusedVariables false
def isOp (l : List I4) (c : Int) (n : Nat) : Prop := (l.getD n i0).1 = c
abbrev semOf (l : List I4) (n : Nat) : Int := (l.getD n i0).2.1
def cntOp (l : List I4) (c : Int) : Nat → Nat
 | 0 => 0
 | n + 1 => cntOp l c n + (if (l.getD n i0).1 = c then 1 else 0)
structure PrI (l : List I4) (i : Nat) (out open_ : List Int) : Prop where
 len : out.length = l.length
 sorted : open_.Pairwise (· < ·)
 small : ∀ k ∈ open_, 0 ≤ k ∧ k < (i : Int)
 lock : ∀ k : Nat, (k : Int) ∈ open_ → isOp l 9 k
 closed : ∀ k, k < i → isOp l 9 k → (k : Int) ∉ open_ → ∃ u : Nat, out.getD k 0 = (u : Int) ∧ k < u ∧ u < i ∧ isOp l 10 u ∧ semOf l u = semOf l k
 dist : ∀ k j, k < j → j < i → isOp l 9 k → isOp l 9 j → (k : Int) ∈ open_ → semOf l k ≠ semOf l j
 nest : ∀ k j, k < j → j < i → isOp l 9 k → isOp l 9 j → (k : Int) ∉ open_ → (j : Int) < out.getD k 0 → (j : Int) ∉ open_ ∧ out.getD j 0 ≤ out.getD k 0 ∧ semOf l k ≠ semOf l j
 cnt : cntOp l 9 i = cntOp l 10 i + open_.length
theorem prI_step {l : List I4} {i : Nat} {s s' : List Int × List Int} (hi : i < l.length) (h : PrI l i s.1 s.2) (hs : prStep l i s = some s') : PrI l (i + 1) s'.1 s'.2 := by
 unfold prStep at hs
 have lt1 : ∀ k, k < i + 1 → k ≠ i → k < i := fun k h1 h2 => by omega
 have notin : ((i : Nat) : Int) ∉ s.2 := fun h1 => by have := h.small _ h1; omega
 split at hs
 ·rename_i h9
  split at hs
  ·cases hs
  ·rename_i hn
   injection hs with hs; subst hs
   have hmem : ∀ k : Nat, ((k : Int) ∈ s.2 ++ [(i : Int)]) ↔ ((k : Int) ∈ s.2 ∨ k = i) := fun k => by
    rw [List.mem_append, List.mem_singleton]
    exact ⟨fun h => h.imp id (fun h => by omega), fun h => h.imp id (fun h => by omega)⟩
   refine ⟨h.len, ?_, ?_, ?_, ?_, ?_, ?_, ?_⟩
   ·rw [List.pairwise_append]
    exact ⟨h.sorted, List.pairwise_singleton _ _, fun a ha b hb => by rw [List.mem_singleton.1 hb]; exact (h.small a ha).2⟩
   ·intro k hk
    rcases List.mem_append.1 hk with hk | hk
    ·have := h.small k hk; omega
    ·rw [List.mem_singleton.1 hk]; omega
   ·intro k hk
    rcases (hmem k).1 hk with hk | rfl
    ·exact h.lock k hk
    ·exact h9
   ·intro k hk1 hk2 hk3
    have hk3 := fun e => hk3 ((hmem k).2 e)
    obtain ⟨u, h1, h2, h3, h4⟩ := h.closed k (lt1 k hk1 (fun e => hk3 (.inr e))) hk2 (fun e => hk3 (.inl e))
    exact ⟨u, h1, h2, by omega, h4⟩
   ·intro k j hkj hj h1 h2 h3
    by_cases e : j = i
    ·subst e
     rcases (hmem k).1 h3 with h3 | e
     ·intro e
      apply hn; right
      unfold sameS
      rw [List.any_eq_true]
      exact ⟨(k : Int), h3, by rw [rd_nat, rd_nat]; exact beq_iff_eq.2 e⟩
     ·omega
    ·rcases (hmem k).1 h3 with h3 | e2
     ·exact h.dist k j hkj (lt1 j hj e) h1 h2 h3
     ·omega
   ·intro k j hkj hj h1 h2 h3 h4
    have h3' := fun e => h3 ((hmem k).2 e)
    obtain ⟨u, g1, g2, g3, _⟩ := h.closed k (by omega) h1 (fun e => h3' (.inl e))
    have h4' : (j : Int) < s.1.getD k 0 := h4
    by_cases e : j = i
    ·subst e; omega
    ·obtain ⟨q1, q2⟩ := h.nest k j hkj (lt1 j hj e) h1 h2 (fun e => h3' (.inl e)) h4
     exact ⟨fun h5 => ((hmem j).1 h5).elim q1 e, q2⟩
   ·rw [cntOp, cntOp, if_pos h9, if_neg (by rw [h9]; decide), h.cnt]
    simp only [List.length_append, List.length_cons, List.length_nil]; omega
 ·rename_i h9
  split at hs
  ·rename_i h10
   split at hs
   ·cases hs
   ·rename_i x hx
    split at hs
    ·cases hs
    ·rename_i hn
     injection hs with hs; subst hs
     obtain ⟨r, hr⟩ : ∃ r, s.2 = r ++ [x] := by
      rcases List.eq_nil_or_concat s.2 with e | ⟨r, y, e⟩
      ·rw [e] at hx; cases hx
      ·rw [List.concat_eq_append] at e
       rw [e] at hx
       simp at hx
       subst hx
       exact ⟨r, e⟩
     have hxm := h.small x (by rw [hr]; simp)
     obtain ⟨n, rfl⟩ : ∃ n : Nat, x = (n : Int) := ⟨x.toNat, by omega⟩
     have hsort := h.sorted
     rw [hr, List.pairwise_append] at hsort
     have hdl : s.2.dropLast = r := by rw [hr]; simp
     have hmem : ∀ k : Nat, (k : Int) ∈ s.2 ↔ ((k : Int) ∈ r ∨ k = n) := fun k => by
      rw [hr, List.mem_append, List.mem_singleton]
      exact ⟨fun h => h.imp id (fun h => by omega), fun h => h.imp id (fun h => by omega)⟩
     have hnr : (n : Int) ∉ r := fun e => by have := hsort.2.2 _ e (n : Int) (by simp); omega
     have hge : ∀ k : Nat, (k : Int) ∈ r → k < n := fun k e => by have := hsort.2.2 _ e (n : Int) (by simp); omega
     have hln := h.lock n ((hmem n).2 (.inr rfl))
     have hA : semOf l n = semOf l i := by
      by_cases e : semOf l n = semOf l i
      ·exact e
      ·exact absurd (.inl (by rw [rd_nat]; exact e)) hn
     have hget : ∀ k : Nat, (s.1.set n (i : Int)).getD k 0 = if n = k ∧ k < s.1.length then (i : Int) else s.1.getD k 0 := fun k => set_get
     have hlen := h.len
     have hnl : n < s.1.length := by omega
     simp only
     rw [hdl, upd_nat]
     refine ⟨by rw [List.length_set]; exact h.len, hsort.1, fun k hk => by have := h.small k (by rw [hr]; simp [hk]); omega, fun k hk => h.lock k ((hmem k).2 (.inl hk)), ?_, ?_, ?_, ?_⟩
     ·intro k hk1 hk2 hk3
      rw [hget]
      by_cases e : n = k
      ·subst e
       rw [if_pos ⟨rfl, hnl⟩]
       exact ⟨i, rfl, by omega, by omega, h10, hA.symm⟩
      ·rw [if_neg (fun q => e q.1)]
       have : k ≠ i := fun e => by subst e; exact h9 hk2
       obtain ⟨u, h1, h2, h3, h4⟩ := h.closed k (by omega) hk2 (fun q => ((hmem k).1 q).elim hk3 (fun q => e q.symm))
       exact ⟨u, h1, h2, by omega, h4⟩
     ·intro k j hkj hj h1 h2 h3
      have : j ≠ i := fun e => by subst e; exact h9 h2
      exact h.dist k j hkj (by omega) h1 h2 ((hmem k).2 (.inl h3))
     ·intro k j hkj hj h1 h2 h3 h4
      have hji : j ≠ i := fun e => by subst e; exact h9 h2
      rw [hget k] at h4
      rw [hget k, hget j]
      by_cases e : n = k
      ·subst e
       rw [if_pos ⟨rfl, hnl⟩] at h4
       rw [if_pos (show n = n ∧ n < s.1.length from ⟨rfl, hnl⟩)]
       have hjr : (j : Int) ∉ r := fun q => by have := hge j q; omega
       have hjo : (j : Int) ∉ s.2 := fun q => ((hmem j).1 q).elim hjr (fun q => by omega)
       obtain ⟨u, g1, g2, g3, _⟩ := h.closed j (by omega) h2 hjo
       rw [if_neg (show ¬ (n = j ∧ j < s.1.length) by omega)]
       exact ⟨hjr, by omega, h.dist n j hkj (by omega) h1 h2 ((hmem n).2 (.inr rfl))⟩
      ·rw [if_neg (fun q => e q.1)] at h4
       rw [if_neg (show ¬ (n = k ∧ k < s.1.length) from fun q => e q.1)]
       have hko : (k : Int) ∉ s.2 := fun q => ((hmem k).1 q).elim h3 (fun q => e q.symm)
       obtain ⟨q1, q2, q3⟩ := h.nest k j hkj (by omega) h1 h2 hko h4
       have hjn : n ≠ j := fun e => q1 (e ▸ (hmem n).2 (.inr rfl))
       rw [if_neg (show ¬ (n = j ∧ j < s.1.length) from fun q => hjn q.1)]
       exact ⟨fun q => q1 ((hmem j).2 (.inl q)), q2, q3⟩
     ·rw [cntOp, cntOp, if_pos h10, if_neg h9, h.cnt, hr]
      simp only [List.length_append, List.length_cons, List.length_nil]; omega
  ·rename_i h10
   injection hs with hs; subst hs
   have ne : ∀ j, isOp l 9 j → j ≠ i := fun j q e => by subst e; exact h9 q
   refine ⟨h.len, h.sorted, fun k hk => by have := h.small k hk; omega, h.lock, ?_, ?_, ?_, ?_⟩
   ·intro k hk1 hk2 hk3
    have := ne k hk2
    obtain ⟨u, h1, h2, h3, h4⟩ := h.closed k (by omega) hk2 hk3
    exact ⟨u, h1, h2, by omega, h4⟩
   ·intro k j hkj hj h1 h2 h3
    have := ne j h2
    exact h.dist k j hkj (by omega) h1 h2 h3
   ·intro k j hkj hj h1 h2 h3 h4
    have := ne j h2
    exact h.nest k j hkj (by omega) h1 h2 h3 h4
   ·rw [cntOp, cntOp, if_neg h10, if_neg h9, h.cnt]; omega
theorem prI_go {l : List I4} : ∀ (m i : Nat) (s s' : List Int × List Int), i + m = l.length → PrI l i s.1 s.2 → prGo l m i s = some s' → PrI l l.length s'.1 s'.2
 | 0, i, s, s', hm, h, hg => by
  injection hg with hg; subst hg
  have : i = l.length := by omega
  subst this; exact h
 | m + 1, i, s, s', hm, h, hg => by
  rw [prGo, Option.bind_eq_some_iff] at hg
  obtain ⟨t, h1, h2⟩ := hg
  exact prI_go m (i + 1) t s' (by omega) (prI_step (by omega) h h1) h2
theorem prI_prs {l : List I4} {ps : List Int} (h : prs l = some ps) : PrI l l.length ps [] :=
 prI_go _ _ _ _ (by omega) ⟨by simp, List.Pairwise.nil, (fun _ h => by cases h), (fun _ h => by cases h), fun _ h => by omega, fun _ _ _ h => by omega, fun _ _ _ h => by omega, rfl⟩ (prs_go h)
end Go.Proofs.Ytjnnjciedbgmiaa.Ab

/- Pairs are one in the other or apart. -/
namespace Go.Proofs.Ytjnnjciedbgmiaa.Ab
open Go.RowKit Tr
set_option linter.unusedSimpArgs false
set_option linter.unusedVariables false
theorem L6_27_eq {k : Nat} {g7 : List (List I4) → Int → Option ((Bool × Unit) × Unit)} {g16 : List (List I4) → Int → List I4 → List Int → Int → Int → Option ((Bool × Unit) × Unit)} {lots : List (List I4)} {n : Int} {l : List I4} {ps : List Int} {lets : Int} {i : Nat} (h : PrI l l.length ps []) (hi : i < l.length) (h9 : isOp l 9 i) (hl : l.length ≤ 900) (j : Nat) (hj : i < j) :
  L6_27 k g7 g16 j lots n l ps lets (i : Int) 0 = g16 lots n l ps lets ((i + 1 : Nat) : Int) := by
 have hlen := h.len
 have := anyN (L := fun j m => L6_27 k g7 g16 j lots n l ps lets (i : Int) m) (n := i) (fun _ => false) none (g16 lots n l ps lets ((i + 1 : Nat) : Int)) (fun j m hm => by
  show L6_27 k g7 g16 (j + 1) lots n l ps lets (i : Int) (m : Int) = L6_27 k g7 g16 j lots n l ps lets (i : Int) ((m + 1 : Nat) : Int)
  rw [L6_27_s, l6_27, bif_t (by omega), ix_nat (by omega), rd_nat, w64_nat (by omega)]
  cases hm9 : (l.getD m i0).1 == 9 with
  | false => rfl
  | true =>
   rw [cond_true, ix_nat (by omega), rd_nat]
   by_cases e : ps.getD m 0 > (i : Int)
   ·obtain ⟨_, q2, q3⟩ := h.nest m i hm hi (eq_of_beq hm9) h9 (by simp) e
    rw [bif_t e, ix_nat (by omega), ix_nat (by omega), rd_nat, bif_f (by omega), ix_nat (by omega), ix_nat hi, rd_nat]
    have : ((l.getD m i0).2.1 == (l.getD i i0).2.1) = false := beq_eq_false_iff_ne.2 q3
    rw [this]; rfl
   ·rw [bif_f e]) (fun j => by
  show L6_27 k g7 g16 (j + 1) lots n l ps lets (i : Int) (i : Int) = _
  rw [L6_27_s, l6_27, bif_f (by omega), w64_nat (by omega)]) i 0 j (by omega) hj
 rw [show (0 : Int) = ((0 : Nat) : Int) from rfl]
 refine Eq.trans this ?_
 rw [(anyF_none _ _ _).2 (fun _ _ _ => rfl)]; rfl
theorem cntOp_le (l : List I4) (c : Int) : ∀ n, cntOp l c n ≤ n
 | 0 => by simp [cntOp]
 | n + 1 => by rw [cntOp]; have := cntOp_le l c n; split <;> omega
theorem L6_16_eq {k : Nat} (hk : 1000 ≤ k) {g7 : List (List I4) → Int → Option ((Bool × Unit) × Unit)} {lots : List (List I4)} {n : Nat} {l : List I4} {ps : List Int} (h : PrI l l.length ps []) (hz : ∀ k, k < l.length → (l.getD k i0).1 ≠ 9 → ps.getD k 0 = 0) (hl : l.length ≤ 900) (hn : n ≤ 900) : ∀ (m i j : Nat), i + m = l.length → m < j →
  L6_16 k g7 j lots (n : Int) l ps ((cntOp l 10 i : Int) - (cntOp l 9 i : Int)) (i : Int) = g7 lots ((n + 1 : Nat) : Int)
 | 0, i, j, hi, hj => by
  obtain ⟨j', rfl⟩ : ∃ j', j = j' + 1 := ⟨j - 1, by omega⟩
  have : i = l.length := by omega
  subst this
  have hc := h.cnt
  simp only [List.length_nil, Nat.add_zero] at hc
  rw [L6_16_s, l6_16, bif_f (by omega), hc, Int.sub_self, w64_nat (by omega)]
  rfl
 | m + 1, i, j, hi, hj => by
  obtain ⟨j', rfl⟩ : ∃ j', j = j' + 1 := ⟨j - 1, by omega⟩
  have ih := L6_16_eq hk (g7 := g7) (lots := lots) h hz hl hn m (i + 1) j' (by omega) (by omega)
  rw [cntOp, cntOp] at ih
  have b1 := cntOp_le l 10 i
  have b2 := cntOp_le l 9 i
  have hlen := h.len
  rw [L6_16_s, l6_16, bif_t (by omega), ix_nat (by omega), rd_nat]
  unfold j6_20
  rw [ix_nat (by omega), ix_nat (by omega), rd_nat, ix_nat (by omega), rd_nat, w64_nat (by omega)]
  by_cases h10 : (l.getD i i0).1 = 10
  ·have e1 : ((l.getD i i0).1 == 10) = true := by rw [h10]; rfl
   have e2 : ((l.getD i i0).1 != 9) = true := by rw [h10]; rfl
   rw [if_pos h10, if_neg (by rw [h10]; decide)] at ih
   rw [e1, e2, cond_true, cond_true, hz i (by omega) (by rw [h10]; decide), w64 (by omega) (by omega)]
   refine Eq.trans ?_ ih
   show L6_16 k g7 j' lots (n : Int) l ps _ _ = _
   congr 1; omega
  ·have e1 : ((l.getD i i0).1 == 10) = false := by simpa using h10
   rw [e1, cond_false]
   rw [if_neg h10] at ih
   by_cases h9 : (l.getD i i0).1 = 9
   ·have e2 : ((l.getD i i0).1 != 9) = false := by rw [h9]; rfl
    rw [if_pos h9] at ih
    obtain ⟨u, g1, g2, g3, g4, g5⟩ := h.closed i (by omega) h9 (by simp)
    rw [e2, cond_false, g1, bif_f (by omega), ix_nat (by omega), bif_f (by omega), ix_nat (by omega), ix_nat (by omega), rd_nat]
    have e3 : ((l.getD u i0).1 != 10) = false := by rw [show (l.getD u i0).1 = 10 from g4]; rfl
    have e4 : ((l.getD u i0).2.1 != (l.getD i i0).2.1) = false := by rw [show (l.getD u i0).2.1 = (l.getD i i0).2.1 from g5]; simp
    rw [e3, cond_false, ix_nat (by omega), ix_nat (by omega), ix_nat (by omega), e4, cond_false, w64 (by omega) (by omega)]
    try rw [ix_nat (by omega), ix_nat (by omega)]
    refine (L6_27_eq h (by omega) h9 hl k (by omega)).trans ?_
    refine Eq.trans ?_ ih
    show L6_16 k g7 j' lots (n : Int) l ps _ _ = _
    congr 1; omega
   ·have e2 : ((l.getD i i0).1 != 9) = true := by simpa using h9
    rw [if_neg h9] at ih
    rw [e2, cond_true, hz i (by omega) h9]
    rw [ix_nat (by omega), ix_nat (by omega)]
    refine Eq.trans ?_ ih
    show L6_16 k g7 j' lots (n : Int) l ps _ _ = _
    congr 1
theorem L6_7_eq {k : Nat} (hk : 1000 ≤ k) {m w : List I4} (hm : m.length ≤ 900) (hw : w.length ≤ 900) : ∀ (d i j : Nat), i + d = 2 → d < j → L6_7 k j [m, w] (i : Int) = some ((true, ()), ())
 | 0, i, j, h, hj => by
  obtain ⟨j', rfl⟩ : ∃ j', j = j' + 1 := ⟨j - 1, by omega⟩
  rw [L6_7_s, l6_7, bif_f (by omega)]
 | d + 1, i, j, h, hj => by
  obtain ⟨j', rfl⟩ : ∃ j', j = j' + 1 := ⟨j - 1, by omega⟩
  have hlen : ([m, w] : List (List I4)).length = 2 := rfl
  have hx : ∀ x ∈ [m, w], x.length ≤ 900 := by simp [hm, hw]
  have hx := hx _ (getD_mem (z := []) (l := [m, w]) (i := i) (by omega))
  rw [L6_7_s, l6_7, bif_t (by omega), ix_nat (by omega), rd_nat]
  generalize [m, w].getD i [] = x at hx ⊢
  rw [S18_eq hk hx, Option.bind_some]
  have ih := L6_7_eq hk hm hw d (i + 1) j' (by omega) (by omega)
  cases hmx : mayA x with
  | false => simp only [Bool.not_false, cond_true]; rw [w64_nat (by omega)]; exact ih
  | true =>
   obtain ⟨ps, g⟩ := mayA_iff.1 hmx
   simp only [Bool.not_true, cond_false]
   rw [S19_eq hk g.len2, g.pairs]
   simp only [prOut, Option.bind_some, Bool.not_true, cond_false]
   rw [prs_len g.pairs, bne_self_eq_false, cond_false]
   exact (L6_16_eq hk (prI_prs g.pairs) (fun k hk h9 => pair_zero g.pairs hk h9) hx (by omega) x.length 0 k (by omega) (by omega)).trans ih
theorem formPairs_pure {p : List Int} {e : TypeId} (hp : Ty.fine (.sl e (.int .u8)) p) {k : Nat} (hk : 1000 ≤ k) : S6 k p = some ((true, ()), ()) := by
 unfold S6
 rw [S13_eq hk]
 simp only [Option.bind_some, Bool.not_true, cond_false]
 by_cases h : (p.length : Int) > 80
 ·rw [bif_t h]
 ·rw [bif_f h]
  unfold S14
  rw [Option.bind_some]
  simp only
  obtain ⟨t, n', e1, h1, h2, h3⟩ := S15_eq hk (locks := 3) (by omega) (picks_ok hp (by omega))
  obtain ⟨w, n2, e2, h4, h5⟩ := S16_eq hk (picks_ok hp (by omega))
  rw [e1, Option.bind_some, Option.bind_some]
  simp only
  rw [e2, Option.bind_some]
  exact L6_7_eq hk (m := t.prog) (w := w) (by rw [prog_len]; omega) (by omega) 2 0 k (by omega) (by omega)
theorem formPairs_law {e : TypeId} (p : List Int) (hp : Ty.fine (.sl e (.int .u8)) p) : ∃ k, S6 k p = some ((true, ()), ()) := ⟨1000, formPairs_pure hp (by omega)⟩
end Go.Proofs.Ytjnnjciedbgmiaa.Ab
