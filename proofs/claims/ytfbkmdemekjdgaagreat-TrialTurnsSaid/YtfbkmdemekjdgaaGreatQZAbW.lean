import Derived.Test.YtfbkmdemekjdgaaGreatPbC
import Derived.Test.YtfbkmdemekjdgaaGreatAbW0
import Derived.Test.YtfbkmdemekjdgaaGreatAbW1
import Derived.Test.YtfbkmdemekjdgaaGreatAbW2
import Derived.KernelRfl
/- The plain law, and what it hangs on. -/
/- Small laws of lists, of loops with a counter, of searches, of arrays as lists. -/
namespace Go.Proofs.YtfbkmdemekjdgaaGreat.Ab
open Go.RowKit
set_option linter.unusedSimpArgs false
set_option linter.unusedVariables false
section
variable {σ R α : Type}
abbrev I4 : Type := Int × Int × Int × Int
theorem getD_in {l : List α} {n : Nat} {z : α} (h : n < l.length) : l.getD n z = l[n] := by
 simp [List.getD_eq_getElem?_getD, List.getElem?_eq_getElem h]
theorem getD_out {l : List α} {n : Nat} {z : α} (h : l.length ≤ n) : l.getD n z = z := by
 simp [List.getD_eq_getElem?_getD, List.getElem?_eq_none h]
theorem drop_cons {l : List α} {i : Nat} (z : α) (h : i < l.length) : l.drop i = l.getD i z :: l.drop (i + 1) := by
 rw [List.drop_eq_getElem_cons h, getD_in h]
theorem drop_nil {l : List α} {i : Nat} (h : i = l.length) : l.drop i = [] := List.drop_eq_nil_of_le (by omega)
theorem getD_mem {l : List α} {i : Nat} {z : α} (h : i < l.length) : l.getD i z ∈ l := by rw [getD_in h]; exact List.getElem_mem h
def goF (f : Nat → σ → σ) : Nat → Nat → σ → σ
 | 0, _, s => s
 | m + 1, i, s => goF f m (i + 1) (f i s)
theorem loopF {L : Nat → σ → Int → Option R} {n : Nat} (inv : Nat → σ → Prop) (f : Nat → σ → σ) (fin : σ → Option R)
  (hs : ∀ j i s, i < n → inv i s → L (j + 1) s (i : Int) = L j (f i s) ((i + 1 : Nat) : Int))
  (hi : ∀ i s, i < n → inv i s → inv (i + 1) (f i s))
  (he : ∀ j s, inv n s → L (j + 1) s (n : Int) = fin s) :
  ∀ (m i j : Nat) (s : σ), i + m = n → m < j → inv i s → L j s i = fin (goF f m i s)
 | 0, i, j, s, h, hj, hv => by
  obtain ⟨j', rfl⟩ : ∃ j', j = j' + 1 := ⟨j - 1, by omega⟩
  have : i = n := by omega
  subst this; exact he j' s hv
 | m + 1, i, j, s, h, hj, hv => by
  obtain ⟨j', rfl⟩ : ∃ j', j = j' + 1 := ⟨j - 1, by omega⟩
  rw [hs j' i s (by omega) hv, goF]
  exact loopF inv f fin hs hi he m (i + 1) j' _ (by omega) (by omega) (hi i s (by omega) hv)
theorem goF_inv {inv : Nat → σ → Prop} {f : Nat → σ → σ} {n : Nat} (hi : ∀ i s, i < n → inv i s → inv (i + 1) (f i s)) : ∀ (m i : Nat) (s : σ), i + m = n → inv i s → inv n (goF f m i s)
 | 0, i, s, h, hv => by
  have : i = n := by omega
  subst this; exact hv
 | m + 1, i, s, h, hv => goF_inv hi m (i + 1) _ (by omega) (hi i s (by omega) hv)
def idxI (f : α → Bool) (xs : List α) : Int := match xs.findIdx? f with | some n => (n : Int) | none => -1
theorem idx_gen (L : Nat → Int → Option ((Int × Unit) × Unit)) (xs : List α) (z : α) (f : α → Bool)
  (hs : ∀ (j n : Nat), n < xs.length → L (j + 1) (n : Int) = bif f (xs.getD n z) then some (((n : Int), ()), ()) else L j ((n + 1 : Nat) : Int))
  (he : ∀ j, L (j + 1) (xs.length : Int) = some ((-1, ()), ())) : ∀ (m i j : Nat), i + m = xs.length → m < j →
   L j i = some (((match (xs.drop i).findIdx? f with | some n => ((i + n : Nat) : Int) | none => -1), ()), ())
 | 0, i, j, h, hj => by
  obtain ⟨j', rfl⟩ : ∃ j', j = j' + 1 := ⟨j - 1, by omega⟩
  have : i = xs.length := by omega
  subst this; rw [he, List.drop_length]; rfl
 | m + 1, i, j, h, hj => by
  obtain ⟨j', rfl⟩ : ∃ j', j = j' + 1 := ⟨j - 1, by omega⟩
  have hlt : i < xs.length := by omega
  rw [hs j' i hlt, drop_cons z hlt, List.findIdx?_cons, idx_gen L xs z f hs he m (i + 1) j' (by omega) (by omega)]
  cases f (xs.getD i z) with
  | true => simp
  | false =>
   simp only [cond_false, Bool.false_eq_true, if_false]
   cases (xs.drop (i + 1)).findIdx? f with
   | none => rfl
   | some n => simp only [Option.map_some]; congr 4; omega
theorem idx_all (L : Nat → Int → Option ((Int × Unit) × Unit)) (xs : List α) (z : α) (f : α → Bool)
  (hs : ∀ (j n : Nat), n < xs.length → L (j + 1) (n : Int) = bif f (xs.getD n z) then some (((n : Int), ()), ()) else L j ((n + 1 : Nat) : Int))
  (he : ∀ j, L (j + 1) (xs.length : Int) = some ((-1, ()), ())) (j : Nat) (hj : xs.length < j) : L j 0 = some ((idxI f xs, ()), ()) := by
 have := idx_gen L xs z f hs he xs.length 0 j (by omega) hj
 rw [List.drop_zero] at this
 simpa [idxI] using this
theorem idx_ge (f : α → Bool) (s : List α) : decide (idxI f s ≥ 0) = s.any f := by
 unfold idxI
 cases h : s.findIdx? f with
 | none => rw [List.findIdx?_eq_none_iff] at h; simp; intro x hx; simpa using h x hx
 | some n =>
  have h2 := List.findIdx?_isSome (xs := s) (p := f)
  rw [h] at h2
  rw [← h2]; simp
end
end Go.Proofs.YtfbkmdemekjdgaaGreat.Ab

/- Things and tables: what their functions come to. -/
namespace Go.Proofs.YtfbkmdemekjdgaaGreat.Ab
open Go.RowKit
set_option linter.unusedSimpArgs false
set_option linter.unusedVariables false
abbrev Th : Type := Int × (Int × Int) × (Int × Int) × (List Int × List Int) × (Int × List (Int × Int)) × Int
abbrev th0 : Th := (0, (0, 0), (0, 0), ([], []), (0, []), 0)
abbrev Tb : Type := (List Int × List Bool) × List Th
def SmT (x : Th) : Prop := x.2.2.2.1.1.length ≤ 100 ∧ x.2.2.2.1.2.length ≤ 100 ∧ x.2.2.2.2.1.2.length ≤ 100
def SmB (t : Tb) : Prop := (t.1.1.length ≤ 100 ∧ t.1.2.length ≤ 100 ∧ t.2.length ≤ 100) ∧ ∀ x ∈ t.2, SmT x
theorem S68_eq {k : Nat} {x : Th} (h : SmT x) : S68 k x = some ((x, ()), ()) := by
 obtain ⟨h1, h2, h3⟩ := h
 unfold S68
 simp only [S66, S67, S111, S92]
 rw [clone_eq (by omega), Option.bind_some, clone_eq (by omega), Option.bind_some, clone_eq (by omega), Option.bind_some]
theorem S33_eq {k : Nat} (hk : 1000 ≤ k) {t : Tb} (h : SmB t) : S33 k t = some ((t, ()), ()) := by
 obtain ⟨⟨h1, h2, h3⟩, h4⟩ := h
 unfold S33
 simp only [S66, S67, S111, S92]
 rw [clone_eq (by omega), Option.bind_some, clone_eq (by omega), Option.bind_some]
 have := loopF (L := fun j (out : List Th) i => L33_3 k j t.1.1 t.1.2 out t.2 (t.2.length : Int) i) (n := t.2.length) (fun i out => out = t.2.take i)
  (fun i out => out ++ [t.2.getD i th0]) (fun out => some ((((t.1.1, t.1.2), out), ()), ()))
  (fun j i out hi hv => by
   show L33_3 k (j + 1) t.1.1 t.1.2 out t.2 (t.2.length : Int) (i : Int) = _
   have hl : out.length ≤ 100 := by rw [hv, List.length_take]; omega
   rw [L33_3_s, l33_3, bif_t (by omega), ix_nat hi, rd_nat, S68_eq (h4 _ (getD_mem hi)), Option.bind_some, ap_ok (by simp only [List.length_cons, List.length_nil]; omega), w64_nat (by omega)])
  (fun i out hi hv => by rw [hv, List.take_add_one, getD_in hi, List.getElem?_eq_getElem hi]; rfl)
  (fun j out hv => by
   show L33_3 k (j + 1) t.1.1 t.1.2 out t.2 (t.2.length : Int) (t.2.length : Int) = _
   rw [L33_3_s, l33_3, bif_f (by omega)]) t.2.length 0 k [] (by omega) (by omega) (by simp)
 have hg := goF_inv (inv := fun i (out : List Th) => out = t.2.take i) (f := fun i out => out ++ [t.2.getD i th0]) (n := t.2.length) (fun i out hi hv => by rw [hv, List.take_add_one, getD_in hi, List.getElem?_eq_getElem hi]; rfl) t.2.length 0 [] (by omega) (by simp)
 refine Eq.trans this ?_
 rw [hg, List.take_length]
/-! ### seals -/
def sumL (x : Th) : List Int := ([x.1, x.2.1.1, x.2.1.2, x.2.2.1.1, x.2.2.1.2, (x.2.2.2.1.1.length : Int)] ++ x.2.2.2.1.1 ++ [(x.2.2.2.1.2.length : Int)] ++ x.2.2.2.1.2 ++ [IntKind.i64.wrap x.2.2.2.2.1.1]) ++ x.2.2.2.2.1.2.flatMap (fun w => [w.1, IntKind.i64.wrap w.2])
theorem flat_len2 (l : List (Int × Int)) : (l.flatMap (fun w => [w.1, IntKind.i64.wrap w.2])).length = 2 * l.length := by
 induction l with
 | nil => rfl
 | cons x r ih => simp only [List.flatMap_cons, List.length_append, ih, List.length_cons, List.length_nil]; omega
theorem L90_11_eq {k : Nat} {ws : List (Int × Int)} (hw : ws.length ≤ 100) : ∀ (m i j : Nat) (l : List Int), i + m = ws.length → m < j → l.length ≤ 1002 + 2 * i → L90_11 k j l ws (ws.length : Int) (i : Int) = S130 k (l ++ (ws.drop i).flatMap (fun w => [w.1, IntKind.i64.wrap w.2]))
 | 0, i, j, l, h, hj, hl => by
  obtain ⟨j', rfl⟩ : ∃ j', j = j' + 1 := ⟨j - 1, by omega⟩
  rw [L90_11_s, l90_11, bif_f (by omega), drop_nil (by omega), List.flatMap_nil, List.append_nil]
  cases S130 k l <;> rfl
 | m + 1, i, j, l, h, hj, hl => by
  obtain ⟨j', rfl⟩ : ∃ j', j = j' + 1 := ⟨j - 1, by omega⟩
  rw [L90_11_s, l90_11, bif_t (by omega), ix_nat (by omega), rd_nat, ap_ok (by simp only [List.length_cons, List.length_nil]; omega), w64_nat (by omega), drop_cons (0, 0) (show i < ws.length by omega), List.flatMap_cons, ← List.append_assoc]
  exact L90_11_eq hw m (i + 1) j' _ (by omega) (by omega) (by simp only [List.length_append, List.length_cons, List.length_nil]; omega)
theorem L90_5_eq {k : Nat} (hk : 1000 ≤ k) {x1 x2 x3 x4 x5 x8 x10 : Int} {x6 x7 : List Int} {ws : List (Int × Int)} {tw : List Int} (hw : ws.length ≤ 100) (ht : tw.length ≤ 100) : ∀ (m i j : Nat) (l : List Int), i + m = tw.length → m < j → l.length ≤ 500 + i →
  L90_5 k j x1 x2 x3 x4 x5 x6 x7 x8 ws x10 l tw (tw.length : Int) (i : Int) = S130 k (l ++ tw.drop i ++ [IntKind.i64.wrap x8] ++ ws.flatMap (fun w => [w.1, IntKind.i64.wrap w.2]))
 | 0, i, j, l, h, hj, hl => by
  obtain ⟨j', rfl⟩ : ∃ j', j = j' + 1 := ⟨j - 1, by omega⟩
  rw [L90_5_s, l90_5, bif_f (by omega), drop_nil (by omega), List.append_nil, ap_ok (by simp only [List.length_cons, List.length_nil]; omega)]
  have := L90_11_eq (k := k) hw ws.length 0 k (l ++ [IntKind.i64.wrap x8]) (by omega) (by omega) (by simp only [List.length_append, List.length_cons, List.length_nil]; omega)
  rw [List.drop_zero] at this
  exact this
 | m + 1, i, j, l, h, hj, hl => by
  obtain ⟨j', rfl⟩ : ∃ j', j = j' + 1 := ⟨j - 1, by omega⟩
  rw [L90_5_s, l90_5, bif_t (by omega), ix_nat (by omega), rd_nat, ap_ok (by simp only [List.length_cons, List.length_nil]; omega), w64_nat (by omega), L90_5_eq hk hw ht m (i + 1) j' _ (by omega) (by omega) (by simp only [List.length_append, List.length_cons, List.length_nil]; omega), drop_cons 0 (show i < tw.length by omega)]
  simp only [List.append_assoc, List.cons_append, List.nil_append]
theorem S90_list {k : Nat} (hk : 1000 ≤ k) {x : Th} (h : SmT x) : S90 k x = S130 k (sumL x) := by
 obtain ⟨h1, h2, h3⟩ := h
 unfold S90
 rw [ap_ok (by simp only [List.length_cons, List.length_nil]; omega), ap_ok (by simp only [List.length_append, List.length_cons, List.length_nil]; omega)]
 have := L90_5_eq hk (x1 := x.1) (x2 := x.2.1.1) (x3 := x.2.1.2) (x4 := x.2.2.1.1) (x5 := x.2.2.1.2) (x8 := x.2.2.2.2.1.1) (x10 := x.2.2.2.2.2) (x6 := x.2.2.2.1.1) (x7 := x.2.2.2.1.2) h3 h2 x.2.2.2.1.2.length 0 k ([x.1, x.2.1.1, x.2.1.2, x.2.2.1.1, x.2.2.1.2, (x.2.2.2.1.1.length : Int)] ++ x.2.2.2.1.1 ++ [(x.2.2.2.1.2.length : Int)]) (by omega) (by omega) (by simp only [List.length_append, List.length_cons, List.length_nil]; omega)
 rw [List.drop_zero] at this
 exact this
theorem L130_6_some {k : Nat} {g3 : Int → List Int → Int → Int → Option ((Int × Unit) × Unit)} {l : List Int} {n i : Int} : ∀ (m a j : Nat) (h u : Int), a + m = 8 → m < j → ∃ v, L130_6 k g3 j h u (a : Int) l n i = g3 v l n (IntKind.i64.wrap (i + 1))
 | 0, a, j, h, u, ha, hj => by
  obtain ⟨j', rfl⟩ : ∃ j', j = j' + 1 := ⟨j - 1, by omega⟩
  rw [L130_6_s, l130_6, bif_f (by omega)]
  exact ⟨h, rfl⟩
 | m + 1, a, j, h, u, ha, hj => by
  obtain ⟨j', rfl⟩ : ∃ j', j = j' + 1 := ⟨j - 1, by omega⟩
  rw [L130_6_s, l130_6, bif_t (by omega), w64_nat (by omega)]
  exact L130_6_some m (a + 1) j' _ _ (by omega) (by omega)
theorem L130_3_some {k : Nat} (hk : 1000 ≤ k) {l : List Int} (hl : l.length ≤ 100000) : ∀ (m i j : Nat) (h : Int), i + m = l.length → m < j → ∃ v, L130_3 k j h l (l.length : Int) (i : Int) = some ((v, ()), ())
 | 0, i, j, h, ha, hj => by
  obtain ⟨j', rfl⟩ : ∃ j', j = j' + 1 := ⟨j - 1, by omega⟩
  rw [L130_3_s, l130_3, bif_f (by omega)]
  exact ⟨h, rfl⟩
 | m + 1, i, j, h, ha, hj => by
  obtain ⟨j', rfl⟩ : ∃ j', j = j' + 1 := ⟨j - 1, by omega⟩
  rw [L130_3_s, l130_3, bif_t (by omega), ix_nat (by omega)]
  obtain ⟨v, hv⟩ := L130_6_some (k := k) (g3 := fun h t8 t9 t10 => L130_3 k j' h t8 t9 t10) (l := l) (n := (l.length : Int)) (i := (i : Int)) 8 0 k h (IntKind.u64.wrap (rd l (i : Int) 0)) (by omega) (by omega)
  obtain ⟨w, hw⟩ := L130_3_some hk hl m (i + 1) j' v (by omega) (by omega)
  refine ⟨w, Eq.trans hv ?_⟩
  show L130_3 k j' v l (l.length : Int) (IntKind.i64.wrap ((i : Int) + 1)) = _
  rw [w64_nat (by omega)]; exact hw
theorem S130_some {k : Nat} (hk : 1000 ≤ k) {l : List Int} (hl : l.length < k) (hl2 : l.length ≤ 100000) : ∃ v, S130 k l = some ((v, ()), ()) := by
 unfold S130
 exact L130_3_some hk hl2 l.length 0 k _ (by omega) (by omega)
theorem sumL_len {x : Th} (h : SmT x) : (sumL x).length ≤ 500 := by
 obtain ⟨h1, h2, h3⟩ := h
 have := flat_len2 x.2.2.2.2.1.2
 unfold sumL
 simp only [List.length_append, List.length_cons, List.length_nil] at this ⊢
 omega
noncomputable def sumV (k : Nat) (x : Th) : Int := match S130 k (sumL x) with | some q => q.1.1 | none => 0
theorem S90_eq {k : Nat} (hk : 1000 ≤ k) {x : Th} (h : SmT x) : S90 k x = some ((sumV k x, ()), ()) := by
 rw [S90_list hk h]
 have hl := sumL_len h
 obtain ⟨v, hv⟩ := S130_some hk (l := sumL x) (by omega) (by omega)
 unfold sumV; rw [hv]
noncomputable def sealT (k : Nat) (x : Th) : Th := (x.1, x.2.1, x.2.2.1, x.2.2.2.1, x.2.2.2.2.1, sumV k x)
theorem S81_eq {k : Nat} (hk : 1000 ≤ k) {x : Th} (h : SmT x) : S81 k x = some ((sealT k x, ()), ()) := by
 unfold S81; rw [S90_eq hk h]; rfl
def isTh (t : Tb) (i : Int) : Bool := decide (0 ≤ i) && (decide (i < (t.2.length : Int)) && (rd t.2 i th0).1 != 0)
theorem S34_eq {k : Nat} {t : Tb} {i : Int} : S34 k t i = some ((isTh t i, ()), ()) := by
 unfold S34 isTh
 by_cases h : 0 ≤ i
 ·rw [bif_t h, decide_eq_true h]
  by_cases h2 : i < (t.2.length : Int)
  ·rw [bif_t h2, decide_eq_true h2, ix_ok h h2]; rfl
  ·rw [bif_f h2, decide_eq_false h2]; rfl
 ·rw [bif_f h, decide_eq_false h]; rfl
end Go.Proofs.YtfbkmdemekjdgaaGreat.Ab

/- Tables: what is put, what is turned, what begins anew. -/
namespace Go.Proofs.YtfbkmdemekjdgaaGreat.Ab
open Go.RowKit
set_option linter.unusedSimpArgs false
set_option linter.unusedVariables false
noncomputable def putT (k : Nat) (w x : Th) : Th :=
 if w.2.2.2.2.2 = sumV k w then sealT k (w.1, w.2.1, x.2.2) else ((sealT k (w.1, w.2.1, x.2.2)).1, (sealT k (w.1, w.2.1, x.2.2)).2.1, (sealT k (w.1, w.2.1, x.2.2)).2.2.1, (sealT k (w.1, w.2.1, x.2.2)).2.2.2.1, (sealT k (w.1, w.2.1, x.2.2)).2.2.2.2.1, inot .u32 (sealT k (w.1, w.2.1, x.2.2)).2.2.2.2.2)
noncomputable def putV (k : Nat) (t : Tb) (i : Int) (x : Th) : Tb := if isTh t i = true then (t.1, upd t.2 i (putT k (rd t.2 i th0) x)) else t
theorem isTh_in {t : Tb} {i : Int} (h : isTh t i = true) : 0 ≤ i ∧ i < (t.2.length : Int) ∧ (rd t.2 i th0).1 ≠ 0 := by
 unfold isTh at h
 simp only [Bool.and_eq_true, decide_eq_true_eq, bne_iff_ne, ne_eq] at h
 exact ⟨h.1, h.2.1, h.2.2⟩
theorem rd_mem {t : List Th} {i : Int} (h0 : 0 ≤ i) (h1 : i < (t.length : Int)) : rd t i th0 ∈ t := by
 obtain ⟨n, rfl⟩ : ∃ n : Nat, i = (n : Int) := ⟨i.toNat, by omega⟩
 rw [rd_nat]; exact getD_mem (by omega)
theorem S46_eq {k : Nat} (hk : 1000 ≤ k) {t : Tb} {i : Int} {x : Th} (ht : SmB t) (hx : SmT x) : S46 k t i x = some ((putV k t i x, ()), ()) := by
 unfold S46 putV
 rw [S33_eq hk ht, Option.bind_some, S34_eq, Option.bind_some]
 cases h : isTh t i with
 | false => rfl
 | true =>
  obtain ⟨h0, h1, h2⟩ := isTh_in h
  have hw : SmT (rd t.2 i th0) := ht.2 _ (rd_mem h0 h1)
  simp only [Bool.not_true, cond_false, if_true]
  rw [ix_ok h0 h1, S68_eq (x := ((rd t.2 i th0).1, (rd t.2 i th0).2.1, x.2.2)) hx, Option.bind_some]
  simp only
  rw [S81_eq hk (x := ((rd t.2 i th0).1, (rd t.2 i th0).2.1, x.2.2)) hx, Option.bind_some, S90_eq hk hw, Option.bind_some, ix_ok h0 h1, ix_ok h0 h1]
  unfold putT
  by_cases e : (rd t.2 i th0).2.2.2.2.2 = sumV k (rd t.2 i th0)
  ·rw [if_pos e, show ((rd t.2 i th0).2.2.2.2.2 != sumV k (rd t.2 i th0)) = false by simpa using e, cond_false]
  ·rw [if_neg e, show ((rd t.2 i th0).2.2.2.2.2 != sumV k (rd t.2 i th0)) = true by simpa using e, cond_true]
def turnT (x : Th) : Th := (x.1, x.2.1, x.2.2.1, x.2.2.2.1, x.2.2.2.2.1, inot .u32 x.2.2.2.2.2)
def turnV (t : Tb) (i : Int) : Tb := if isTh t i = true then (t.1, upd t.2 i (turnT (rd t.2 i th0))) else t
theorem S13_eq {k : Nat} (hk : 1000 ≤ k) {t : Tb} {i : Int} (ht : SmB t) : S13 k t i = some ((turnV t i, isTh t i, ()), ()) := by
 unfold S13 turnV
 rw [S33_eq hk ht, Option.bind_some, S34_eq, Option.bind_some]
 cases h : isTh t i with
 | false => rfl
 | true =>
  obtain ⟨h0, h1, h2⟩ := isTh_in h
  simp only [Bool.not_true, cond_false, if_true]
  rw [ix_ok h0 h1, ix_ok h0 h1]; rfl
/-! ### who waits -/
def waitsT (x : Th) : List Int := x.2.2.2.1.2 ++ x.2.2.2.2.1.2.map (·.1)
theorem S133_eq {k : Nat} (hk : 1000 ≤ k) {f : Int × List (Int × Int)} (h : f.2.length ≤ 100) : S133 k f = some (((0, []), f.2.map (·.1), ()), ()) := by
 unfold S133
 have := loopF (L := fun j (who : List Int) i => L133_2 k j 0 who f.2 (f.2.length : Int) i) (n := f.2.length) (fun i who => who = (f.2.take i).map (·.1))
  (fun i who => who ++ [(f.2.getD i (0, 0)).1]) (fun who => some ((((0, []), who, ()), ())))
  (fun j i who hi hv => by
   show L133_2 k (j + 1) 0 who f.2 (f.2.length : Int) (i : Int) = _
   have hl : who.length ≤ 100 := by rw [hv, List.length_map, List.length_take]; omega
   rw [L133_2_s, l133_2, bif_t (by omega), ix_nat hi, rd_nat, ap_ok (by simp only [List.length_cons, List.length_nil]; omega), w64_nat (by omega)])
  (fun i who hi hv => by rw [hv, List.take_add_one, getD_in hi, List.getElem?_eq_getElem hi, List.map_append]; rfl)
  (fun j who hv => by
   show L133_2 k (j + 1) 0 who f.2 (f.2.length : Int) (f.2.length : Int) = _
   rw [L133_2_s, l133_2, bif_f (by omega)]) f.2.length 0 k [] (by omega) (by omega) (by simp)
 have hg := goF_inv (inv := fun i (who : List Int) => who = (f.2.take i).map (·.1)) (f := fun i who => who ++ [(f.2.getD i (0, 0)).1]) (n := f.2.length) (fun i who hi hv => by rw [hv, List.take_add_one, getD_in hi, List.getElem?_eq_getElem hi, List.map_append]; rfl) f.2.length 0 [] (by omega) (by simp)
 refine Eq.trans this ?_
 rw [hg, List.take_length]
theorem S132_eq {k : Nat} {b : List Int × List Int} (h : b.2.length ≤ 100) : S132 k b = some ((([], []), b.2, ()), ()) := by
 unfold S132
 simp only [S66, S67, S111, S92]
 rw [clone_eq (by omega)]; rfl
theorem S171_eq {k : Nat} {n : Int} (h0 : 0 ≤ n) (h1 : n ≤ 100000) : S171 k n = some (([], ()), ()) := by
 unfold S171
 rw [bif_f (by omega), w64 (by omega) (by omega)]
 by_cases e : n - 0 > 0
 ·rw [bif_t e]
  unfold az
  rw [if_pos]
  ·dsimp only
   rw [sx_ok (by omega) (by omega) (by omega)]; simp
  ·simp only [Bool.and_eq_true, decide_eq_true_eq, List.length_nil]; omega
 ·rw [bif_f e]
theorem S134_two {k : Nat} (hk : 1000 ≤ k) {a b : List Int} (ha : a.length ≤ 1000) (hb : b.length ≤ 1000) : S134 k [a, b] = some ((a ++ b, ()), ()) := by
 unfold S134
 obtain ⟨k', rfl⟩ : ∃ k', k = k' + 3 := ⟨k - 3, by omega⟩
 have e0 : rd [a, b] 0 [] = a := rfl
 have e1 : rd [a, b] 1 [] = b := rfl
 have w1 : IntKind.i64.wrap (0 + 1) = 1 := rfl
 have w2 : IntKind.i64.wrap (1 + 1) = 2 := rfl
 have hlen : (([a, b] : List (List Int)).length : Int) = 2 := rfl
 rw [hlen, L134_3_s, l134_3, bif_t (by omega), ix_ok (by omega) (by omega), e0, w1, w64 (by omega) (by omega), bif_f (by omega), L134_3_s, l134_3, bif_t (by omega), ix_ok (by omega) (by omega), e1, w2, w64 (by omega) (by omega), bif_f (by omega), L134_3_s, l134_3, bif_f (by omega), S171_eq (by omega) (by omega), Option.bind_some, hlen]
 simp only
 rw [L134_11_s, l134_11, bif_t (by omega), ix_ok (by omega) (by omega), e0, w1, ap_ok (by simp only [List.length_nil]; omega), L134_11_s, l134_11, bif_t (by omega), ix_ok (by omega) (by omega), e1, w2, ap_ok (by simp only [List.nil_append]; omega), L134_11_s, l134_11, bif_f (by omega), List.nil_append]
theorem S96_eq {k : Nat} (hk : 1000 ≤ k) {x : Th} (h : SmT x) : S96 k x = some ((waitsT x, ()), ()) := by
 obtain ⟨h1, h2, h3⟩ := h
 unfold S96 waitsT
 rw [S132_eq h2, Option.bind_some, S133_eq hk h3, Option.bind_some]
 simp only
 rw [S134_two hk (by omega) (by rw [List.length_map]; omega)]; rfl
/-! ### what begins anew -/
noncomputable def trn (k : Nat) (x : Th) : Bool := x.1 != 0 && x.2.2.2.2.2 != sumV k x
noncomputable def frT (k : Nat) (x : Th) : Th := sealT k (x.1, x.2.1, (if x.1 = 1 then x.2.2.1.1 else 0, 0), ([], []), (0, []), 0)
noncomputable def aud (k : Nat) (l : List Th) : Nat → Nat → List Th × List Int × List (List Int) → List Th × List Int × List (List Int)
 | 0, _, s => s
 | m + 1, i, s => aud k l m (i + 1) (if trn k (l.getD i th0) = true then (s.1.set i (frT k (l.getD i th0)), s.2.1 ++ [(i : Int)], s.2.2 ++ [waitsT (l.getD i th0)]) else s)
theorem L59_3_eq {k : Nat} (hk : 1000 ≤ k) {t : Tb} (ht : SmB t) : ∀ (m i j : Nat) (s : List Th × List Int × List (List Int)), i + m = t.2.length → m < j → s.1.length = t.2.length → s.2.1.length ≤ i → s.2.2.length ≤ i →
  L59_3 k j t.1.1 t.1.2 t.2 t.1.1 t.1.2 s.1 s.2.1 s.2.2 t.2 (t.2.length : Int) (i : Int) = some (((t.1, (aud k t.2 m i s).1), (aud k t.2 m i s).2.1, (aud k t.2 m i s).2.2, ()), ())
 | 0, i, j, s, h, hj, h1, h2, h3 => by
  obtain ⟨j', rfl⟩ : ∃ j', j = j' + 1 := ⟨j - 1, by omega⟩
  rw [L59_3_s, l59_3, bif_f (by omega), aud]
 | m + 1, i, j, s, h, hj, h1, h2, h3 => by
  obtain ⟨j', rfl⟩ : ∃ j', j = j' + 1 := ⟨j - 1, by omega⟩
  obtain ⟨⟨hl1, hl2, hl3⟩, hsm⟩ := ht
  have hi : i < t.2.length := by omega
  have hx := hsm _ (getD_mem (z := th0) hi)
  have ih := L59_3_eq hk ⟨⟨hl1, hl2, hl3⟩, hsm⟩ m (i + 1) j'
  have hth : isTh ((t.1.1, t.1.2), t.2) (i : Int) = ((t.2.getD i th0).1 != 0) := by
   unfold isTh; rw [decide_eq_true (show (0 : Int) ≤ (i : Int) by omega), decide_eq_true (show (i : Int) < (t.2.length : Int) by omega), rd_nat]; rfl
  rw [L59_3_s, l59_3, bif_t (by omega), ix_nat hi, S34_eq, Option.bind_some, hth, rd_nat, w64_nat (by omega), aud]
  unfold trn
  cases h0 : (t.2.getD i th0).1 != 0 with
  | false =>
   simp only [Bool.not_false, cond_true, Bool.false_and, Bool.false_eq_true, if_false]
   exact ih s (by omega) (by omega) h1 (by omega) (by omega)
  | true =>
   simp only [Bool.not_true, cond_false, Bool.true_and]
   rw [S90_eq hk hx, Option.bind_some]
   simp only
   by_cases e : (t.2.getD i th0).2.2.2.2.2 = sumV k (t.2.getD i th0)
   ·rw [show ((t.2.getD i th0).2.2.2.2.2 == sumV k (t.2.getD i th0)) = true by simpa using e, cond_true, if_neg (by simpa using e)]
    exact ih s (by omega) (by omega) h1 (by omega) (by omega)
   ·rw [show ((t.2.getD i th0).2.2.2.2.2 == sumV k (t.2.getD i th0)) = false by simpa using e, cond_false, if_pos (by simpa using e)]
    have fin : ∀ y : Th, SmT y → y = (( t.2.getD i th0).1, (t.2.getD i th0).2.1, (if (t.2.getD i th0).1 = 1 then (t.2.getD i th0).2.2.1.1 else 0, 0), ([], []), (0, []), 0) →
      j59_9 k (fun t1 t2 t3 out out1 out2 places who t11 t12 t13 => L59_3 k j' t1 t2 t3 out out1 out2 places who t11 t12 t13) t.1.1 t.1.2 t.2 t.1.1 t.1.2 s.1 s.2.1 s.2.2 (i : Int) (t.2.getD i th0).1 (t.2.getD i th0).2.1.1 (t.2.getD i th0).2.1.2 (t.2.getD i th0).2.2.1.1 (t.2.getD i th0).2.2.1.2 (t.2.getD i th0).2.2.2.1.1 (t.2.getD i th0).2.2.2.1.2 (t.2.getD i th0).2.2.2.2.1.1 (t.2.getD i th0).2.2.2.2.1.2 (t.2.getD i th0).2.2.2.2.2 y.1 y.2.1.1 y.2.1.2 y.2.2.1.1 y.2.2.1.2 y.2.2.2.1.1 y.2.2.2.1.2 y.2.2.2.2.1.1 y.2.2.2.2.1.2 y.2.2.2.2.2 t.2 (t.2.length : Int) (i : Int) =
      some (((t.1, (aud k t.2 m (i + 1) (s.1.set i (frT k (t.2.getD i th0)), s.2.1 ++ [(i : Int)], s.2.2 ++ [waitsT (t.2.getD i th0)])).1), (aud k t.2 m (i + 1) (s.1.set i (frT k (t.2.getD i th0)), s.2.1 ++ [(i : Int)], s.2.2 ++ [waitsT (t.2.getD i th0)])).2.1, (aud k t.2 m (i + 1) (s.1.set i (frT k (t.2.getD i th0)), s.2.1 ++ [(i : Int)], s.2.2 ++ [waitsT (t.2.getD i th0)])).2.2, ()), ()) := fun y hy hye => by
     unfold j59_9
     have e1 : S81 k (y.1, (y.2.1.1, y.2.1.2), (y.2.2.1.1, y.2.2.1.2), (y.2.2.2.1.1, y.2.2.2.1.2), (y.2.2.2.2.1.1, y.2.2.2.2.1.2), y.2.2.2.2.2) = some ((sealT k y, ()), ()) := S81_eq hk hy
     rw [e1, Option.bind_some, ix_nat (by omega), ap_ok (by simp only [List.length_cons, List.length_nil]; omega)]
     have e2 : S96 k ((t.2.getD i th0).1, ((t.2.getD i th0).2.1.1, (t.2.getD i th0).2.1.2), ((t.2.getD i th0).2.2.1.1, (t.2.getD i th0).2.2.1.2), ((t.2.getD i th0).2.2.2.1.1, (t.2.getD i th0).2.2.2.1.2), ((t.2.getD i th0).2.2.2.2.1.1, (t.2.getD i th0).2.2.2.2.1.2), (t.2.getD i th0).2.2.2.2.2) = some ((waitsT (t.2.getD i th0), ()), ()) := S96_eq hk hx
     rw [e2, Option.bind_some, ap_ok (by simp only [List.length_cons, List.length_nil]; omega), w64_nat (by omega), upd_nat]
     have e3 : sealT k y = frT k (t.2.getD i th0) := by rw [hye]; rfl
     simp only
     rw [e3]
     exact ih (s.1.set i (frT k (t.2.getD i th0)), s.2.1 ++ [(i : Int)], s.2.2 ++ [waitsT (t.2.getD i th0)]) (by omega) (by omega) (by simp only [List.length_set]; exact h1) (by simp only [List.length_append, List.length_cons, List.length_nil]; omega) (by simp only [List.length_append, List.length_cons, List.length_nil]; omega)
    unfold S82
    by_cases e1 : (t.2.getD i th0).1 = 1
    ·rw [show ((t.2.getD i th0).1 == 1) = true by rw [e1]; rfl, cond_true, Option.bind_some]
     simp only [cond_true]
     exact fin ((t.2.getD i th0).1, (t.2.getD i th0).2.1, ((t.2.getD i th0).2.2.1.1, 0), ([], []), (0, []), 0) ⟨by simp, by simp, by simp⟩ (by rw [if_pos e1])
    ·rw [show ((t.2.getD i th0).1 == 1) = false by simpa using e1, cond_false, Option.bind_some]
     simp only [cond_false]
     exact fin ((t.2.getD i th0).1, (t.2.getD i th0).2.1, (0, 0), ([], []), (0, []), 0) ⟨by simp, by simp, by simp⟩ (by rw [if_neg e1])
theorem S59_eq {k : Nat} (hk : 1000 ≤ k) {t : Tb} (ht : SmB t) : S59 k t = some (((t.1, (aud k t.2 t.2.length 0 (t.2, [], [])).1), (aud k t.2 t.2.length 0 (t.2, [], [])).2.1, (aud k t.2 t.2.length 0 (t.2, [], [])).2.2, ()), ()) := by
 unfold S59
 rw [S33_eq hk ht, Option.bind_some]
 have := ht.1
 exact L59_3_eq hk ht t.2.length 0 k (t.2, [], []) (by omega) (by omega) rfl (by simp) (by simp)
theorem aud_none {k : Nat} {l : List Th} : ∀ (m i : Nat) (s : List Th × List Int × List (List Int)), (∀ j, i ≤ j → j < i + m → trn k (l.getD j th0) = false) → aud k l m i s = s
 | 0, _, _, _ => rfl
 | m + 1, i, s, h => by
  rw [aud, h i (by omega) (by omega)]
  exact aud_none m (i + 1) s (fun j h1 h2 => h j (by omega) (by omega))
end Go.Proofs.YtfbkmdemekjdgaaGreat.Ab

/- Tables: what is made; what is put is sealed: the law. -/
namespace Go.Proofs.YtfbkmdemekjdgaaGreat.Ab
open Go.RowKit
set_option linter.unusedSimpArgs false
set_option linter.unusedVariables false
abbrev Sl : Type := List Int × List Bool
theorem SmT_0 : SmT th0 := ⟨by simp, by simp, by simp⟩
end Go.Proofs.YtfbkmdemekjdgaaGreat.Ab

/- What was turned begins anew, nothing else: the law. -/
namespace Go.Proofs.YtfbkmdemekjdgaaGreat.Ab
open Go.RowKit
set_option linter.unusedSimpArgs false
set_option linter.unusedVariables false
theorem u32_emod' (n : Int) : IntKind.u32.wrap n = n % 4294967296 := by
 unfold IntKind.wrap
 have e1 : (2 ^ IntKind.u32.bits : Int) = 4294967296 := by decide
 simp only [e1, IntKind.signed, Bool.false_and, Bool.false_eq_true, if_false]
theorem inot_ne (n : Int) : inot .u32 n ≠ n := by
 unfold inot
 intro h
 have h1 : (if IntKind.u32.signed = true then (-1 : Int) else IntKind.u32.max) = 4294967295 := by decide
 rw [h1] at h
 have e : ∀ x : BitVec 32, IntKind.u32.wrap (x.toNat : Int) = (x.toNat : Int) := fun x => by
  have := x.isLt
  have h2 : (2 : Nat) ^ 32 = 4294967296 := by decide
  rw [u32_emod']; omega
 have h' : IntKind.u32.wrap (((BitVec.ofInt 32 4294967295 ^^^ BitVec.ofInt 32 n).toNat : Nat) : Int) = n := h
 rw [e] at h'
 have h3 := congrArg (BitVec.ofInt 32) h'
 rw [BitVec.ofInt_natCast, BitVec.ofNat_toNat, BitVec.setWidth_eq] at h3
 have h4 : BitVec.ofInt 32 4294967295 = 0#32 := by
  have := congrArg (fun y => y ^^^ BitVec.ofInt 32 n) h3
  simp only [BitVec.xor_self, BitVec.xor_assoc, BitVec.xor_zero] at this
  exact this
 exact absurd h4 (by decide)
def bt (v : Int) (i : Nat) : Bool := iand .u16 (ishr .u16 v (i : Int)) 1 == 1
end Go.Proofs.YtfbkmdemekjdgaaGreat.Ab

/- Handles are had till they are dropped: the law. -/
namespace Go.Proofs.YtfbkmdemekjdgaaGreat.Ab
open Go.RowKit
set_option linter.unusedSimpArgs false
set_option linter.unusedVariables false
theorem lookD_upd2 {tk tv : Ty} (hb : ∀ a b : tk.D, beqD tk a b = true ↔ a = b) (d e : tk.D) (v : tv.D) : ∀ (es : List (tk.D × tv.D)), lookD tk tv e (updD tk tv d v es) = if beqD tk e d = true then some v else lookD tk tv e es
 | [] => by
  simp only [updD, lookD]
  cases beqD tk e d <;> rfl
 | x :: r => by
  simp only [updD]
  cases h : beqD tk d x.1 with
  | true =>
   have := (hb _ _).1 h
   simp only [lookD]
   rw [← this]
   cases beqD tk e d <;> rfl
  | false =>
   simp only [lookD]
   rw [lookD_upd2 hb d e v r]
   cases h2 : beqD tk e x.1 with
   | true =>
    have h3 := (hb _ _).1 h2
    subst h3
    cases h4 : beqD tk x.1 d with
    | true =>
     have h5 := (hb _ _).1 h4
     rw [← h5, (hb _ _).2 rfl] at h
     cases h
    | false => rfl
   | false => rfl
abbrev HT : Ty := .pair (.int .i64) (.int .i64)
theorem beqD_HT (a b : HT.D) : beqD HT a b = true ↔ a = b := by
 show (a.1 == b.1 && a.2 == b.2) = true ↔ a = b
 rw [Bool.and_eq_true, beq_iff_eq, beq_iff_eq]
 exact ⟨fun h => Prod.ext h.1 h.2, fun h => by subst h; exact ⟨rfl, rfl⟩⟩
def hasV (s : Sl) (h : Int × Int) : Bool := decide (0 ≤ h.1) && (decide (h.1 < (min s.1.length s.2.length : Nat)) && (rd s.2 h.1 false && (rd s.1 h.1 0 == h.2)))
theorem L170_3_eq {k : Nat} {s : Sl} (h1 : s.1.length ≤ 100) (h2 : s.2.length ≤ 100) (h : Int × Int) : ∀ (m i j : Nat) (es : List ((Int × Int) × Bool)), i + m = min s.1.length s.2.length → m < j →
  (lookD HT .bool h es = if ∃ n : Nat, n < i ∧ s.2.getD n false = true ∧ h = ((n : Int), s.1.getD n 0) then some true else none) →
  ∃ es', L170_3 k j s.1 s.2 es ((min s.1.length s.2.length : Nat) : Int) (i : Int) = some ((es', ()), ()) ∧ (lookD HT .bool h es' = if ∃ n : Nat, n < min s.1.length s.2.length ∧ s.2.getD n false = true ∧ h = ((n : Int), s.1.getD n 0) then some true else none)
 | 0, i, j, es, hi, hj, he => by
  obtain ⟨j', rfl⟩ : ∃ j', j = j' + 1 := ⟨j - 1, by omega⟩
  have : i = min s.1.length s.2.length := by omega
  subst this
  rw [L170_3_s, l170_3, bif_f (by omega)]
  exact ⟨es, rfl, he⟩
 | m + 1, i, j, es, hi, hj, he => by
  obtain ⟨j', rfl⟩ : ∃ j', j = j' + 1 := ⟨j - 1, by omega⟩
  rw [L170_3_s, l170_3, bif_t (by omega), ix_nat (by omega), rd_nat, w64_nat (by omega)]
  cases e : s.2.getD i false with
  | false =>
   rw [cond_false]
   refine L170_3_eq h1 h2 h m (i + 1) j' es (by omega) (by omega) ?_
   rw [he]
   congr 1
   refine propext ⟨fun ⟨n, q1, q2⟩ => ⟨n, by omega, q2⟩, fun ⟨n, q1, q2, q3⟩ => ?_⟩
   by_cases en : n = i
   ·subst en; rw [e] at q2; cases q2
   ·exact ⟨n, by omega, q2, q3⟩
  | true =>
   rw [cond_true, ix_nat (by omega), rd_nat]
   refine L170_3_eq h1 h2 h m (i + 1) j' _ (by omega) (by omega) ?_
   rw [lookD_upd2 beqD_HT, he]
   by_cases c : beqD HT h ((i : Int), s.1.getD i 0) = true
   ·have c' := (beqD_HT _ _).1 c
    rw [if_pos c, if_pos ⟨i, by omega, e, c'⟩]
   ·rw [if_neg c]
    congr 1
    refine propext ⟨fun ⟨n, q1, q2⟩ => ⟨n, by omega, q2⟩, fun ⟨n, q1, q2, q3⟩ => ?_⟩
    by_cases en : n = i
    ·subst en; exact absurd ((beqD_HT _ _).2 q3) c
    ·exact ⟨n, by omega, q2, q3⟩
theorem S129_eq {k : Nat} (hk : 1000 ≤ k) {s : Sl} {h : Int × Int} (h1 : s.1.length ≤ 100) (h2 : s.2.length ≤ 100) : S129 k s h = some ((hasV s h, ()), ()) := by
 unfold S129 S170 S124
 rw [Option.bind_some, mn_eq]
 simp only
 have hm : min (s.1.length : Int) (s.2.length : Int) = ((min s.1.length s.2.length : Nat) : Int) := by omega
 obtain ⟨es, g1, g2⟩ := L170_3_eq (k := k) h1 h2 h (min s.1.length s.2.length) 0 k [] (by omega) (by omega) (by
  rw [if_neg (by rintro ⟨n, q, _⟩; omega)]; rfl)
 rw [hm, show (0 : Int) = ((0 : Nat) : Int) from rfl, g1, Option.bind_some]
 unfold mget
 rw [g2]
 unfold hasV
 by_cases c : ∃ n : Nat, n < min s.1.length s.2.length ∧ s.2.getD n false = true ∧ h = ((n : Int), s.1.getD n 0)
 ·rw [if_pos c]
  obtain ⟨n, q1, q2, rfl⟩ := c
  simp only
  rw [decide_eq_true (show (0 : Int) ≤ (n : Int) by omega), decide_eq_true (show (n : Int) < ((min s.1.length s.2.length : Nat) : Int) by omega), rd_nat, rd_nat, q2, beq_self_eq_true]; rfl
 ·rw [if_neg c]
  cases e : decide (0 ≤ h.1) with
  | false => rfl
  | true =>
   have e1 := of_decide_eq_true e
   cases f : decide (h.1 < ((min s.1.length s.2.length : Nat) : Int)) with
   | false => rfl
   | true =>
    have f1 := of_decide_eq_true f
    obtain ⟨n, hn⟩ : ∃ n : Nat, h.1 = (n : Int) := ⟨h.1.toNat, by omega⟩
    rw [hn, rd_nat, rd_nat]
    cases g : s.2.getD n false with
    | false => rfl
    | true =>
     cases q : s.1.getD n 0 == h.2 with
     | false => rfl
     | true => exact absurd ⟨n, by omega, g, Prod.ext hn (eq_of_beq q).symm⟩ c
def findV (t : Tb) (h : Int × Int) : Bool := hasV t.1 h && isTh t h.1
theorem S88_eq {k : Nat} (hk : 1000 ≤ k) {t : Tb} {h : Int × Int} (ht : SmB t) : S88 k t h = some (((if findV t h = true then h.1 else 0), findV t h, ()), ()) := by
 unfold S88 findV
 rw [S129_eq hk ht.1.1 ht.1.2.1, Option.bind_some]
 cases hasV t.1 h with
 | false => rfl
 | true =>
  simp only [Bool.not_true, cond_false, Bool.true_and]
  rw [S34_eq, Option.bind_some]
  cases isTh t h.1 <;> rfl
end Go.Proofs.YtfbkmdemekjdgaaGreat.Ab

/- What some calls are told: a closed law, reckoned. -/
namespace Go.Proofs.YtfbkmdemekjdgaaGreat.Ab
open Go.RowKit
set_option linter.unusedSimpArgs false
set_option linter.unusedVariables false
end Go.Proofs.YtfbkmdemekjdgaaGreat.Ab

/- Calls of a kernel without tasks: a thing that is made, that waits, that is freed. -/
namespace Go.Proofs.YtfbkmdemekjdgaaGreat.Ab
open Go.RowKit
set_option linter.unusedSimpArgs false
set_option linter.unusedVariables false
abbrev TkH : Type := Int × Int × Int × List I4 × List I4 × List I4
abbrev McH : Type := Int × PN Int 8 × List (Int × Int × Int) × Bool
abbrev JbH : Type := Int × Int × Int × Int × McH × McH × List Int × Bool
abbrev KnH : Type := Int × Int × List TkH × List (PN Int 5) × Bool × Bool × Bool × List JbH × Tb × List Int × List Bool
abbrev EvH : Type := PN Int 6
abbrev tkH : TkH := (0, 0, 0, [], [], [])
theorem put_none {k : Nat} (hk : 1000 ≤ k) {T : Tb} (hT : SmB T) : S46 k T (-1) th0 = some ((T, ()), ()) := by
 rw [S46_eq hk hT SmT_0]
 rfl
end Go.Proofs.YtfbkmdemekjdgaaGreat.Ab

/- Calls of a kernel without tasks: what is there, and what is not. -/
namespace Go.Proofs.YtfbkmdemekjdgaaGreat.Ab
open Go.RowKit
set_option linter.unusedSimpArgs false
set_option linter.unusedVariables false
def takeB (b : List Int × List Int) (c : Int) : (List Int × List Int) × Int × Bool × Bool :=
 bif decide (c < 1) then (b, 0, false, false)
 else bif decide ((b.1.length : Int) > 0) then ((b.1.drop 1, b.2), b.1.getD 0 0, true, true)
 else bif b.2.any (fun x => c == x) then (b, 0, false, false)
 else bif decide ((b.2.length : Int) ≥ 4) then (b, 0, false, false) else ((b.1, b.2 ++ [c]), 0, false, true)
def postB (b : List Int × List Int) (v : Int) : (List Int × List Int) × Int × Bool :=
 bif decide ((b.2.length : Int) > 0) then ((b.1, b.2.drop 1), b.2.getD 0 0, true)
 else bif decide ((b.1.length : Int) ≥ 4) then (b, 0, false) else ((b.1 ++ [v], b.2), 0, true)
theorem cl_i {k : Nat} {xs : List Int} (h : xs.length ≤ 900) : S66 k xs = some ((xs, ()), ()) := by
 unfold S66; exact clone_eq (by omega)
theorem cl_i64 {k : Nat} {xs : List Int} (h : xs.length ≤ 900) : S111 k xs = some ((xs, ()), ()) := by
 unfold S111; exact clone_eq (by omega)
theorem cl_w {k : Nat} {xs : List (Int × Int)} (h : xs.length ≤ 900) : S92 k xs = some ((xs, ()), ()) := by
 unfold S92; exact clone_eq (by omega)
theorem sub_one {l : List Int} : sub l 1 (l.length : Int) = l.drop 1 := by
 unfold sub
 rw [Int.toNat_natCast, List.take_length]; rfl
theorem S60_eq {k : Nat} (hk : 1000 ≤ k) {s : List Int} {v : Int} (h : s.length ≤ 900) : S60 k s v = some ((idxI (fun b => v == b) s, ()), ()) := by
 unfold S60
 refine idx_all (fun j i => L60_2 k j s v (s.length : Int) i) s 0 _ (fun j i hi => ?_) (fun j => ?_) k (by omega)
 ·show L60_2 k (j + 1) s v (s.length : Int) (i : Int) = _
  rw [L60_2_s, l60_2, bif_t (by omega), ix_nat hi, w64_nat (by omega), rd_nat]
 ·show L60_2 k (j + 1) s v (s.length : Int) (s.length : Int) = _
  rw [L60_2_s, l60_2, bif_f (by omega)]
theorem S47_eq {k : Nat} (hk : 1000 ≤ k) {b : List Int × List Int} (h1 : b.1.length ≤ 100) (h2 : b.2.length ≤ 100) (c : Int) : S47 k b c = some (((takeB b c).1, (takeB b c).2.1, (takeB b c).2.2.1, (takeB b c).2.2.2, ()), ()) := by
 unfold S47 S89 takeB
 rw [cl_i64 (by omega), Option.bind_some, cl_i (by omega), Option.bind_some, Option.bind_some]
 simp only
 by_cases hc : c < 1
 ·rw [bif_t hc, bif_t hc]
 ·rw [bif_f hc, bif_f hc]
  by_cases hl : (b.1.length : Int) > 0
  ·rw [bif_t hl, bif_t hl, ix_ok (by omega) (by omega), sx_ok (by omega) (by omega) (by omega), sub_one]
   rfl
  ·rw [bif_f hl, bif_f hl]
   unfold S91
   rw [S60_eq hk (by omega)]
   simp only [Option.bind_some, idx_ge]
   cases b.2.any (fun x => c == x) with
   | true => rfl
   | false =>
    rw [cond_false, cond_false]
    by_cases h4 : (b.2.length : Int) ≥ 4
    ·rw [bif_t h4, bif_t h4]
    ·rw [bif_f h4, bif_f h4, ap_ok (by simp; omega)]
theorem S44_eq {k : Nat} (hk : 1000 ≤ k) {b : List Int × List Int} (h1 : b.1.length ≤ 100) (h2 : b.2.length ≤ 100) (v : Int) : S44 k b v = some (((postB b v).1, (postB b v).2.1, (postB b v).2.2, ()), ()) := by
 unfold S44 S89 postB
 rw [cl_i64 (by omega), Option.bind_some, cl_i (by omega), Option.bind_some, Option.bind_some]
 simp only
 by_cases hl : (b.2.length : Int) > 0
 ·rw [bif_t hl, bif_t hl, ix_ok (by omega) (by omega), sx_ok (by omega) (by omega) (by omega), sub_one]
  rfl
 ·rw [bif_f hl, bif_f hl]
  by_cases h4 : (b.1.length : Int) ≥ 4
  ·rw [bif_t h4, bif_t h4]
  ·rw [bif_f h4, bif_f h4, ap_ok (by simp; omega)]
end Go.Proofs.YtfbkmdemekjdgaaGreat.Ab

/- Calls of a kernel without tasks: flags that are awaited, what is freed. -/
namespace Go.Proofs.YtfbkmdemekjdgaaGreat.Ab
open Go.RowKit
set_option linter.unusedSimpArgs false
set_option linter.unusedVariables false
def awaitF (f : Int × List (Int × Int)) (c m : Int) : (Int × List (Int × Int)) × Int × Bool :=
 bif decide (c < 1) then (f, 0, false)
 else bif m == 0 then (f, 0, false)
 else bif iand .u32 f.1 m != 0 then ((iandn .u32 f.1 (iand .u32 f.1 m), f.2), iand .u32 f.1 m, true)
 else bif decide ((f.2.length : Int) ≥ 4) then (f, 0, false)
 else bif f.2.any (fun w => w.1 == c) then (f, 0, false) else ((f.1, f.2 ++ [(c, m)]), 0, true)
theorem S131_eq {k : Nat} (hk : 1000 ≤ k) {s : List (Int × Int)} {c : Int} (h : s.length ≤ 900) : S131 k s c = some ((idxI (fun w : Int × Int => w.1 == c) s, ()), ()) := by
 unfold S131
 refine idx_all (fun j i => L131_2 k j s c (s.length : Int) i) s (0, 0) _ (fun j i hi => ?_) (fun j => ?_) k (by omega)
 ·show L131_2 k (j + 1) s c (s.length : Int) (i : Int) = _
  rw [L131_2_s, l131_2, bif_t (by omega), ix_nat hi, w64_nat (by omega), rd_nat]
  unfold S94
  rfl
 ·show L131_2 k (j + 1) s c (s.length : Int) (s.length : Int) = _
  rw [L131_2_s, l131_2, bif_f (by omega)]
theorem S49_eq {k : Nat} (hk : 1000 ≤ k) {f : Int × List (Int × Int)} (h2 : f.2.length ≤ 100) (c m : Int) : S49 k f c m = some (((awaitF f c m).1, (awaitF f c m).2.1, (awaitF f c m).2.2, ()), ()) := by
 unfold S49 awaitF
 rw [cl_w (by omega), Option.bind_some]
 by_cases hc : c < 1
 ·rw [bif_t hc, bif_t hc]
 ·rw [bif_f hc, bif_f hc]
  cases m == 0 with
  | true => rfl
  | false =>
   rw [cond_false, cond_false]
   cases iand .u32 f.1 m != 0 with
   | true => rfl
   | false =>
    rw [cond_false, cond_false]
    by_cases h4 : (f.2.length : Int) ≥ 4
    ·rw [bif_t h4, bif_t h4]
    ·rw [bif_f h4, bif_f h4]
     unfold S93
     rw [S131_eq hk (by omega)]
     simp only [Option.bind_some, idx_ge]
     cases f.2.any (fun w => w.1 == c) with
     | true => rfl
     | false => rw [cond_false, cond_false, ap_ok (by simp; omega)]
end Go.Proofs.YtfbkmdemekjdgaaGreat.Ab

/- A thing that was freed is nobody's, who waited for it is told, and one that comes in its place is another one. -/
namespace Go.Proofs.YtfbkmdemekjdgaaGreat.Ab
open Go.RowKit
set_option linter.unusedSimpArgs false
set_option linter.unusedVariables false
noncomputable def thB (k : Nat) (g : Int) (b : List Int × List Int) : Th := sealT k (2, (0, g), (0, 0), b, (0, []), 0)
theorem SmT_B (k : Nat) (g : Int) {b : List Int × List Int} (h1 : b.1.length ≤ 100) (h2 : b.2.length ≤ 100) (s : Int) : SmT (2, (0, g), (0, 0), b, (0, []), s) := ⟨h1, h2, by simp⟩
theorem SmT_thB (k : Nat) (g : Int) {b : List Int × List Int} (h1 : b.1.length ≤ 100) (h2 : b.2.length ≤ 100) : SmT (thB k g b) := ⟨h1, h2, by simp [thB, sealT]⟩
theorem beq6 (a b c d e f : Int) : beqD (arrT 6 (.int .i64)) (a, b, c, d, e, f) (a, b, c, d, e, f) = true := by simp [beqD]
theorem wf_u8h {n : Int} (h : (Lit.int .u8 n).wf = true) : 0 ≤ n ∧ n ≤ 255 := by
 simp [Lit.wf, IntKind.min, IntKind.max, IntKind.signed, IntKind.bits] at h
 omega
end Go.Proofs.YtfbkmdemekjdgaaGreat.Ab

/- What is posted comes to who asks, in order, through calls, and the processor's ticks are no matter. -/
namespace Go.Proofs.YtfbkmdemekjdgaaGreat.Ab
open Go.RowKit
set_option linter.unusedSimpArgs false
set_option linter.unusedVariables false
end Go.Proofs.YtfbkmdemekjdgaaGreat.Ab

/- Flags that are raised are told to who waits, or are there for who asks, through calls. -/
namespace Go.Proofs.YtfbkmdemekjdgaaGreat.Ab
open Go.RowKit
set_option linter.unusedSimpArgs false
set_option linter.unusedVariables false
def raiseF (f : Int × List (Int × Int)) (m : Int) : (Int × List (Int × Int)) × List (Int × Int) :=
 match f.2 with
 | [] => ((ior .u32 f.1 m, []), [])
 | w :: _ => bif iand .u32 (ior .u32 f.1 m) w.2 == 0 then ((ior .u32 f.1 m, [w]), []) else ((iandn .u32 (ior .u32 f.1 m) (iand .u32 (ior .u32 f.1 m) w.2), []), [(w.1, iand .u32 (ior .u32 f.1 m) w.2)])
theorem S48_eq {k : Nat} (hk : 1000 ≤ k) {f : Int × List (Int × Int)} (h : f.2.length ≤ 1) (m : Int) : S48 k f m = some (((raiseF f m).1, (raiseF f m).2, ()), ()) := by
 obtain ⟨b, ws⟩ := f
 unfold S48 raiseF
 obtain ⟨j, rfl⟩ : ∃ j, k = j + 2 := ⟨k - 2, by omega⟩
 cases ws with
 | nil =>
  simp only
  rw [L48_3_s, l48_3, bif_f (by simp)]
 | cons w ws =>
  have : ws = [] := by
   have h2 : (w :: ws).length ≤ 1 := h
   simp only [List.length_cons] at h2
   exact List.eq_nil_of_length_eq_zero (by omega)
  subst this
  simp only
  rw [L48_3_s, l48_3, bif_t (by simp), ix_ok (by omega) (by simp), show rd [w] 0 (0, 0) = w from rfl]
  cases iand .u32 (ior .u32 b m) w.2 == 0 with
  | true =>
   rw [cond_true, cond_true, ap_ok (by simp)]
   rw [show IntKind.i64.wrap ((0 : Int) + 1) = 1 from rfl, L48_3_s, l48_3, bif_f (by simp)]
   rfl
  | false =>
   rw [cond_false, cond_false, ap_ok (by simp)]
   rw [show IntKind.i64.wrap ((0 : Int) + 1) = 1 from rfl, L48_3_s, l48_3, bif_f (by simp)]
   rfl
theorem raise_len {f : Int × List (Int × Int)} (h : f.2.length ≤ 1) (m : Int) : (raiseF f m).1.2.length ≤ 1 ∧ (raiseF f m).2.length ≤ 1 := by
 obtain ⟨b, ws⟩ := f
 unfold raiseF
 cases ws with
 | nil => simp
 | cons w ws => simp only; cases iand .u32 (ior .u32 b m) w.2 == 0 <;> simp
end Go.Proofs.YtfbkmdemekjdgaaGreat.Ab

/- Does a trial do anything. -/
namespace Go.Proofs.YtfbkmdemekjdgaaGreat.Ab
open Go.RowKit
set_option linter.unusedSimpArgs false
set_option linter.unusedVariables false
theorem S5_eq {k : Nat} (hk : 20000 ≤ k) : S5 k = some ((true, ()), ()) := by
 obtain ⟨k, rfl⟩ : ∃ m, k = m + 20000 := ⟨k - 20000, by omega⟩
 kernel_rfl
end Go.Proofs.YtfbkmdemekjdgaaGreat.Ab

/- Calls of a kernel without tasks that runs. -/
namespace Go.Proofs.YtfbkmdemekjdgaaGreat.Ab
open Go.RowKit
set_option linter.unusedSimpArgs false
set_option linter.unusedVariables false
abbrev KR (n ap : Int) (T : Tb) : KnH := (n, ap, [], [], true, false, false, [], T, [], [])
theorem twin_KR {k : Nat} (hk : 1000 ≤ k) (n ap : Int) {T : Tb} (hT : SmB T) : S28 k (KR n ap T) = some ((KR n ap T, ()), ()) := by
 have h1 : S51 k [] = some (([], ()), ()) := by unfold S51; exact clone_eq (by simp)
 have h2 : S52 k [] = some (([], ()), ()) := by unfold S52; exact clone_eq (by simp)
 have h3 : S53 k [] = some (([], ()), ()) := by unfold S53; exact clone_eq (by simp)
 have h4 : S56 k ([], []) (-1) = some ((([], []), ()), ()) := by
  unfold S56 S100 S66 S67
  simp only
  rw [clone_eq (by simp), Option.bind_some, clone_eq (by simp), Option.bind_some]
  rfl
 have h5 : S46 k ((T.1.1, T.1.2), T.2) (-1) (0, (0, 0), (0, 0), ([], []), (0, []), 0) = some ((T, ()), ()) := put_none hk hT
 unfold S28
 simp only
 rw [h1, Option.bind_some, h2, Option.bind_some, h3, Option.bind_some]
 simp only
 obtain ⟨j, hj⟩ : ∃ j, k = j + 1 := ⟨k - 1, by omega⟩
 have e8 : ∀ a b c d e, L28_8 k (j + 1) n ap [] [] true false false [] T.1.1 T.1.2 T.2 [] [] a b c d e 0 0 = some ((KR n ap T, ()), ()) := fun a b c d e => by
  rw [L28_8_s, l28_8, bif_f (by omega), h5, Option.bind_some, h4, Option.bind_some]
 have e3 : L28_3 k (j + 1) n ap [] [] true false false [] T.1.1 T.1.2 T.2 [] [] 0 0 false false false 0 0 = some ((KR n ap T, ()), ()) := by
  rw [L28_3_s, l28_3, bif_f (by omega)]
  have := e8 0 0 false false false
  rw [← hj] at this
  exact this
 rw [← hj] at e3
 exact e3
theorem mine_KR {k : Nat} (hk : 1000 ≤ k) (n ap : Int) {T : Tb} (hT : SmB T) : S27 k (KR n ap T) = some ((KR n ap T, ()), ()) := by
 unfold S27 S14
 rw [twin_KR hk n ap hT, Option.bind_some]
 rfl
theorem mine_KR' {k : Nat} (hk : 1000 ≤ k) (n ap : Int) {T : Tb} (hT : SmB T) : S27 k (n, ap, [], [], true, false, false, [], ((T.1.1, T.1.2), T.2), [], []) = some ((KR n ap T, ()), ()) := mine_KR hk n ap hT
theorem thing_isR {k : Nat} (hk : 1000 ≤ k) {n ap : Int} {T : Tb} (hT : SmB T) {kd : Int} {B C : Int} (hf : findV T (B, C) = true) (hc : (rd T.2 B th0).1 = kd) {t u v w : Int} {y z A : List I4} {D G H : Int} {I : List EvH} {J K M N : Int} :
  S43 k n ap [] [] true false false [] T.1.1 T.1.2 T.2 [] [] t u v w y z A B C D G H I J K M N kd = some ((B, rd T.2 B th0, true, ()), (n, ap, [], [], true, false, false, [], T.1.1, T.1.2, T.2, [], [], t, u, v, w, y, z, A, B, C, D, G, H, I, J, K, M, N, ()), ()) := by
 have hf' := hf
 unfold findV at hf'
 rw [Bool.and_eq_true] at hf'
 obtain ⟨h0, h1, h2⟩ := isTh_in hf'.2
 unfold S43
 rw [show S88 k ((T.1.1, T.1.2), T.2) (B, C) = _ from S88_eq hk hT, hf, Option.bind_some]
 simp only [if_true, Bool.not_true, cond_false]
 rw [ix_ok h0 h1, show ((rd T.2 B (0, (0, 0), (0, 0), ([], []), (0, []), 0)).1 != kd) = false by rw [bne_eq_false_iff_eq]; exact hc, cond_false, ix_ok h0 h1]
theorem do_takeR {k : Nat} (hk : 1000 ≤ k) (n ap : Int) {T : Tb} (hT : SmB T) {a nn m : Int} {h : Int × Int} {t : TkH} (hf : findV T h = true) (hc : (rd T.2 h.1 th0).1 = 2) (hx : SmT (rd T.2 h.1 th0)) {x : Th} (hxe : rd T.2 h.1 th0 = x) (hx2 : SmT (x.1, x.2.1, x.2.2.1, (takeB x.2.2.2.1 a).1, x.2.2.2.2)) (hT2 : SmB (putV k T h.1 (x.1, x.2.1, x.2.2.1, (takeB x.2.2.2.1 a).1, x.2.2.2.2))) :
  S11 k (KR n ap T) (8, t, h, a, nn, m) = some ((KR n ap (bif !(takeB x.2.2.2.1 a).2.2.2 then T else putV k T h.1 (x.1, x.2.1, x.2.2.1, (takeB x.2.2.2.1 a).1, x.2.2.2.2)), [], ((bif !(takeB x.2.2.2.1 a).2.2.2 then 1 else bif (takeB x.2.2.2.1 a).2.2.1 then 0 else 16), (0, 0), (bif !(takeB x.2.2.2.1 a).2.2.2 then 0 else bif (takeB x.2.2.2.1 a).2.2.1 then (takeB x.2.2.2.1 a).2.1 else 0)), ()), ()) := by
 rw [hxe] at hx
 have hp : ∀ g1 g2, S46 k ((T.1.1, T.1.2), T.2) h.1 (x.1, x.2.1, x.2.2.1, g1, g2) = S46 k T h.1 (x.1, x.2.1, x.2.2.1, g1, g2) := fun g1 g2 => rfl
 unfold S11 S22
 simp only [show ((8 : Int) == 1) = false from rfl, show ((8 : Int) == 2) = false from rfl, show ((8 : Int) == 3) = false from rfl, show ((8 : Int) == 4) = false from rfl, show ((8 : Int) == 5) = false from rfl, show ((8 : Int) == 6) = false from rfl, show ((8 : Int) == 7) = false from rfl, show ((8 : Int) == 8) = true from rfl, cond_false, cond_true]
 rw [thing_isR hk hT hf hc, Option.bind_some, hxe]
 simp only [Bool.not_true, cond_false]
 rw [S47_eq hk hx.1 hx.2.1, Option.bind_some]
 simp only
 cases (takeB x.2.2.2.1 a).2.2.2 with
 | false =>
  simp only [Bool.not_false, cond_true, Option.bind_some]
  rw [mine_KR' hk n ap hT, Option.bind_some]
 | true =>
  simp only [Bool.not_true, cond_false]
  cases (takeB x.2.2.2.1 a).2.2.1 with
  | true =>
   simp only [cond_true]
   rw [hp, S46_eq hk hT hx2, Option.bind_some, Option.bind_some]
   simp only
   rw [mine_KR' hk n ap hT2, Option.bind_some]
  | false =>
   simp only [cond_false]
   rw [hp, S46_eq hk hT hx2, Option.bind_some, Option.bind_some]
   simp only
   rw [mine_KR' hk n ap hT2, Option.bind_some]
theorem do_awaitR {k : Nat} (hk : 1000 ≤ k) (n ap : Int) {T : Tb} (hT : SmB T) {a nn m : Int} {h : Int × Int} {t : TkH} (hf : findV T h = true) (hc : (rd T.2 h.1 th0).1 = 3) (hx : SmT (rd T.2 h.1 th0)) {x : Th} (hxe : rd T.2 h.1 th0 = x) (hx2 : SmT (x.1, x.2.1, x.2.2.1, x.2.2.2.1, (awaitF x.2.2.2.2.1 a m).1, x.2.2.2.2.2)) (hT2 : SmB (putV k T h.1 (x.1, x.2.1, x.2.2.1, x.2.2.2.1, (awaitF x.2.2.2.2.1 a m).1, x.2.2.2.2.2))) :
  S11 k (KR n ap T) (10, t, h, a, nn, m) = some ((KR n ap (bif !(awaitF x.2.2.2.2.1 a m).2.2 then T else putV k T h.1 (x.1, x.2.1, x.2.2.1, x.2.2.2.1, (awaitF x.2.2.2.2.1 a m).1, x.2.2.2.2.2)), [], ((bif !(awaitF x.2.2.2.2.1 a m).2.2 then 1 else bif (awaitF x.2.2.2.2.1 a m).2.1 == 0 then 16 else 0), (0, 0), (bif !(awaitF x.2.2.2.2.1 a m).2.2 then 0 else IntKind.i64.wrap (awaitF x.2.2.2.2.1 a m).2.1)), ()), ()) := by
 rw [hxe] at hx
 have hp : ∀ g1 g2, S46 k ((T.1.1, T.1.2), T.2) h.1 (x.1, x.2.1, x.2.2.1, g1, g2) = S46 k T h.1 (x.1, x.2.1, x.2.2.1, g1, g2) := fun g1 g2 => rfl
 unfold S11 S24
 simp only [show ((10 : Int) == 1) = false from rfl, show ((10 : Int) == 2) = false from rfl, show ((10 : Int) == 3) = false from rfl, show ((10 : Int) == 4) = false from rfl, show ((10 : Int) == 5) = false from rfl, show ((10 : Int) == 6) = false from rfl, show ((10 : Int) == 7) = false from rfl, show ((10 : Int) == 8) = false from rfl, show ((10 : Int) == 9) = false from rfl, show ((10 : Int) == 10) = true from rfl, cond_false, cond_true]
 rw [thing_isR hk hT hf hc, Option.bind_some, hxe]
 simp only [Bool.not_true, cond_false]
 rw [S49_eq hk hx.2.2, Option.bind_some]
 simp only
 cases (awaitF x.2.2.2.2.1 a m).2.2 with
 | false =>
  simp only [Bool.not_false, cond_true, Option.bind_some]
  rw [mine_KR' hk n ap hT, Option.bind_some]
 | true =>
  simp only [Bool.not_true, cond_false]
  cases (awaitF x.2.2.2.2.1 a m).2.1 == 0 with
  | true =>
   simp only [cond_true]
   rw [hp, S46_eq hk hT hx2, Option.bind_some, Option.bind_some]
   simp only
   rw [mine_KR' hk n ap hT2, Option.bind_some]
  | false =>
   simp only [cond_false]
   rw [hp, S46_eq hk hT hx2, Option.bind_some, Option.bind_some]
   simp only
   rw [mine_KR' hk n ap hT2, Option.bind_some]
theorem do_postR {k : Nat} (hk : 1000 ≤ k) (n ap : Int) {T : Tb} (hT : SmB T) {a nn m : Int} {h : Int × Int} {t : TkH} (hf : findV T h = true) (hc : (rd T.2 h.1 th0).1 = 2) (hx : SmT (rd T.2 h.1 th0)) {x : Th} (hxe : rd T.2 h.1 th0 = x) (hx2 : SmT (x.1, x.2.1, x.2.2.1, (postB x.2.2.2.1 nn).1, x.2.2.2.2)) (hT2 : SmB (putV k T h.1 (x.1, x.2.1, x.2.2.1, (postB x.2.2.2.1 nn).1, x.2.2.2.2))) :
  S11 k (KR n ap T) (7, t, h, a, nn, m) = some ((KR n ap (bif !(postB x.2.2.2.1 nn).2.2 then T else putV k T h.1 (x.1, x.2.1, x.2.2.1, (postB x.2.2.2.1 nn).1, x.2.2.2.2)), (bif !(postB x.2.2.2.1 nn).2.2 then [] else bif decide ((postB x.2.2.2.1 nn).2.1 > 0) then [(n, 12, 0, (postB x.2.2.2.1 nn).2.1, nn, 0)] else []), ((bif !(postB x.2.2.2.1 nn).2.2 then 4 else 0), (0, 0), 0), ()), ()) := by
 rw [hxe] at hx
 have hp : ∀ g1 g2, S46 k ((T.1.1, T.1.2), T.2) h.1 (x.1, x.2.1, x.2.2.1, g1, g2) = S46 k T h.1 (x.1, x.2.1, x.2.2.1, g1, g2) := fun g1 g2 => rfl
 unfold S11 S21
 simp only [show ((7 : Int) == 1) = false from rfl, show ((7 : Int) == 2) = false from rfl, show ((7 : Int) == 3) = false from rfl, show ((7 : Int) == 4) = false from rfl, show ((7 : Int) == 5) = false from rfl, show ((7 : Int) == 6) = false from rfl, show ((7 : Int) == 7) = true from rfl, cond_false, cond_true]
 rw [thing_isR hk hT hf hc, Option.bind_some, hxe]
 simp only [Bool.not_true, cond_false]
 rw [S44_eq hk hx.1 hx.2.1, Option.bind_some]
 simp only
 cases (postB x.2.2.2.1 nn).2.2 with
 | false =>
  simp only [Bool.not_false, cond_true, Option.bind_some]
  rw [mine_KR' hk n ap hT, Option.bind_some]
 | true =>
  simp only [Bool.not_true, cond_false]
  cases decide ((postB x.2.2.2.1 nn).2.1 > 0) with
  | true =>
   simp only [cond_true]
   unfold S45
   rw [ap_ok (by simp), Option.bind_some]
   simp only [List.nil_append]
   rw [hp, S46_eq hk hT hx2, Option.bind_some, Option.bind_some]
   simp only
   rw [mine_KR' hk n ap hT2, Option.bind_some]
  | false =>
   simp only [cond_false]
   rw [hp, S46_eq hk hT hx2, Option.bind_some, Option.bind_some]
   simp only
   rw [mine_KR' hk n ap hT2, Option.bind_some]
theorem do_raiseR {k : Nat} (hk : 1000 ≤ k) (n ap : Int) {T : Tb} (hT : SmB T) {a nn m : Int} {h : Int × Int} {t : TkH} (hf : findV T h = true) (hc : (rd T.2 h.1 th0).1 = 3) {x : Th} (hxe : rd T.2 h.1 th0 = x) (hw : x.2.2.2.2.1.2.length ≤ 1) (hx2 : SmT (x.1, x.2.1, x.2.2.1, x.2.2.2.1, (raiseF x.2.2.2.2.1 m).1, x.2.2.2.2.2)) (hT2 : SmB (putV k T h.1 (x.1, x.2.1, x.2.2.1, x.2.2.2.1, (raiseF x.2.2.2.2.1 m).1, x.2.2.2.2.2))) :
  S11 k (KR n ap T) (9, t, h, a, nn, m) = some ((KR n ap (putV k T h.1 (x.1, x.2.1, x.2.2.1, x.2.2.2.1, (raiseF x.2.2.2.2.1 m).1, x.2.2.2.2.2)), (raiseF x.2.2.2.2.1 m).2.map (fun w => (n, 12, 0, w.1, IntKind.i64.wrap w.2, 0)), (0, (0, 0), 0), ()), ()) := by
 have hp : S46 k ((T.1.1, T.1.2), T.2) h.1 (x.1, (x.2.1.1, x.2.1.2), (x.2.2.1.1, x.2.2.1.2), (x.2.2.2.1.1, x.2.2.2.1.2), ((raiseF x.2.2.2.2.1 m).1.1, (raiseF x.2.2.2.2.1 m).1.2), x.2.2.2.2.2) = some ((putV k T h.1 (x.1, x.2.1, x.2.2.1, x.2.2.2.1, (raiseF x.2.2.2.2.1 m).1, x.2.2.2.2.2), ()), ()) := S46_eq hk hT hx2
 have hr := S48_eq hk hw m
 have hlen := (raise_len hw m).2
 unfold S11 S23
 simp only [show ((9 : Int) == 1) = false from rfl, show ((9 : Int) == 2) = false from rfl, show ((9 : Int) == 3) = false from rfl, show ((9 : Int) == 4) = false from rfl, show ((9 : Int) == 5) = false from rfl, show ((9 : Int) == 6) = false from rfl, show ((9 : Int) == 7) = false from rfl, show ((9 : Int) == 8) = false from rfl, show ((9 : Int) == 9) = true from rfl, cond_false, cond_true]
 rw [thing_isR hk hT hf hc, Option.bind_some, hxe]
 simp only [Bool.not_true, cond_false]
 rw [hr, Option.bind_some]
 simp only
 generalize raiseF x.2.2.2.2.1 m = r at hp hlen hT2 ⊢
 obtain ⟨rf, tl⟩ := r
 simp only at hp hlen hT2 ⊢
 have base : ∀ (j : Nat) (I : List EvH) (i : Int), (tl.length : Int) ≤ i → L23_4 k (j + 1) n ap [] [] true false false [] T.1.1 T.1.2 T.2 [] [] 9 t.1 t.2.1 t.2.2.1 t.2.2.2.1 t.2.2.2.2.1 t.2.2.2.2.2 h.1 h.2 a nn m I 0 0 0 0 h.1 x.1 x.2.1.1 x.2.1.2 x.2.2.1.1 x.2.2.1.2 x.2.2.2.1.1 x.2.2.2.1.2 x.2.2.2.2.1.1 x.2.2.2.2.1.2 x.2.2.2.2.2 rf.1 rf.2 tl (tl.length : Int) i = some ((), (n, ap, [], [], true, false, false, [], (putV k T h.1 (x.1, x.2.1, x.2.2.1, x.2.2.2.1, rf, x.2.2.2.2.2)).1.1, (putV k T h.1 (x.1, x.2.1, x.2.2.1, x.2.2.2.1, rf, x.2.2.2.2.2)).1.2, (putV k T h.1 (x.1, x.2.1, x.2.2.1, x.2.2.2.1, rf, x.2.2.2.2.2)).2, [], [], 9, t.1, t.2.1, t.2.2.1, t.2.2.2.1, t.2.2.2.2.1, t.2.2.2.2.2, h.1, h.2, a, nn, m, I, 0, 0, 0, 0, ()), ()) := fun j I i hi => by
  rw [L23_4_s, l23_4, bif_f (by omega), hp, Option.bind_some]
 have loop : ∀ (j : Nat), L23_4 k (j + 2) n ap [] [] true false false [] T.1.1 T.1.2 T.2 [] [] 9 t.1 t.2.1 t.2.2.1 t.2.2.2.1 t.2.2.2.2.1 t.2.2.2.2.2 h.1 h.2 a nn m [] 0 0 0 0 h.1 x.1 x.2.1.1 x.2.1.2 x.2.2.1.1 x.2.2.1.2 x.2.2.2.1.1 x.2.2.2.1.2 x.2.2.2.2.1.1 x.2.2.2.2.1.2 x.2.2.2.2.2 rf.1 rf.2 tl (tl.length : Int) 0 = some ((), (n, ap, [], [], true, false, false, [], (putV k T h.1 (x.1, x.2.1, x.2.2.1, x.2.2.2.1, rf, x.2.2.2.2.2)).1.1, (putV k T h.1 (x.1, x.2.1, x.2.2.1, x.2.2.2.1, rf, x.2.2.2.2.2)).1.2, (putV k T h.1 (x.1, x.2.1, x.2.2.1, x.2.2.2.1, rf, x.2.2.2.2.2)).2, [], [], 9, t.1, t.2.1, t.2.2.1, t.2.2.2.1, t.2.2.2.2.1, t.2.2.2.2.2, h.1, h.2, a, nn, m, tl.map (fun w => (n, 12, 0, w.1, IntKind.i64.wrap w.2, 0)), 0, 0, 0, 0, ()), ()) := fun j => by
  cases tl with
  | nil => exact base (j + 1) [] 0 (by simp)
  | cons w tl =>
   have : tl = [] := by
    simp only [List.length_cons] at hlen
    exact List.eq_nil_of_length_eq_zero (by omega)
   subst this
   rw [L23_4_s, l23_4, bif_t (by simp), ix_ok (by omega) (by simp)]
   unfold S45
   rw [ap_ok (by simp), Option.bind_some]
   simp only [List.nil_append]
   rw [show IntKind.i64.wrap ((0 : Int) + 1) = 1 from rfl]
   exact base j _ 1 (by simp)
 obtain ⟨j, hj⟩ : ∃ j, k = j + 2 := ⟨k - 2, by omega⟩
 have l2 := loop j
 rw [← hj] at l2
 rw [l2, Option.bind_some]
 simp only
 rw [mine_KR' hk n ap hT2, Option.bind_some]
end Go.Proofs.YtfbkmdemekjdgaaGreat.Ab

/- A thing that is turned begins anew with the next tick, who waits is told, and what is in it is gone. -/
namespace Go.Proofs.YtfbkmdemekjdgaaGreat.Ab
open Go.RowKit
set_option linter.unusedSimpArgs false
set_option linter.unusedVariables false
theorem L61_2_none {k : Nat} {l : List Th} (hl : l.length ≤ 100) (h : ∀ x ∈ l, x.1 ≠ 1) : ∀ (d i j : Nat), i + d = l.length → d < j → L61_2 k j [] l (l.length : Int) (i : Int) = some (([], ()), ())
 | 0, i, j, hi, hj => by
  obtain ⟨j', rfl⟩ : ∃ j', j = j' + 1 := ⟨j - 1, by omega⟩
  rw [L61_2_s, l61_2, bif_f (by omega)]
 | d + 1, i, j, hi, hj => by
  obtain ⟨j', rfl⟩ : ∃ j', j = j' + 1 := ⟨j - 1, by omega⟩
  have hx := h _ (getD_mem (z := th0) (show i < l.length by omega))
  rw [L61_2_s, l61_2, bif_t (by omega), ix_nat (by omega), rd_nat, show l.getD i (0, (0, 0), (0, 0), ([], []), (0, []), 0) = l.getD i th0 from rfl, beq_eq_false_iff_ne.2 hx, cond_false, w64_nat (by omega)]
  exact L61_2_none hl h d (i + 1) j' (by omega) (by omega)
def NoS (T : Tb) : Prop := ∀ x ∈ T.2, x.1 ≠ 1
theorem semas_no {k : Nat} (hk : 1000 ≤ k) {T : Tb} (hT : SmB T) (h : NoS T) : S61 k T = some (([], ()), ()) := by
 unfold S61
 exact L61_2_none hT.1.2.2 h T.2.length 0 k (by omega) (by have := hT.1.2.2; omega)
theorem locks_no {k : Nat} (hk : 1000 ≤ k) {n ap : Int} {T : Tb} (hT : SmB T) (h : NoS T) : S63 k (KR n ap T) = some (([], ()), ()) := by
 unfold S63
 rw [show S61 k (KR n ap T).2.2.2.2.2.2.2.2.1 = _ from semas_no hk hT h, Option.bind_some]
 obtain ⟨j, rfl⟩ : ∃ j, k = j + 1 := ⟨k - 1, by omega⟩
 rw [L63_2_s, l63_2, bif_f (by simp)]
theorem ends_no {k : Nat} (hk : 1000 ≤ k) {n ap : Int} {T : Tb} : S29 k n ap [] [] true false false [] T.1.1 T.1.2 T.2 [] [] [] = some ((), (n, ap, [], [], true, false, false, [], T.1.1, T.1.2, T.2, [], [], [], ()), ()) := by
 unfold S29
 obtain ⟨j, rfl⟩ : ∃ j, k = j + 1 := ⟨k - 1, by omega⟩
 rw [L29_2_s, l29_2, bif_f (by simp)]
theorem promotes_no {k : Nat} (hk : 1000 ≤ k) {n ap : Int} {T : Tb} : S30 k n ap [] [] true false false [] T.1.1 T.1.2 T.2 [] [] [] = some ((), (n, ap, [], [], true, false, false, [], T.1.1, T.1.2, T.2, [], [], [], ()), ()) := by
 unfold S30
 obtain ⟨j, rfl⟩ : ∃ j, k = j + 1 := ⟨k - 1, by omega⟩
 rw [L30_1_s, l30_1, bif_f (by simp)]
theorem next_no {k : Nat} (hk : 1000 ≤ k) : S62 k [] 0 [] = some ((0, false, ()), ()) := by
 unfold S62
 obtain ⟨j, hj⟩ : ∃ j, k = j + 1 := ⟨k - 1, by omega⟩
 have e8 : L62_8 k (j + 1) 0 false [] 0 = some ((0, false, ()), ()) := by
  rw [L62_8_s, l62_8, bif_f (by simp)]
 have e3 : L62_3 k (j + 1) 0 [] 0 false [] [] 0 0 = some ((0, false, ()), ()) := by
  rw [L62_3_s, l62_3, bif_f (by simp)]
  rw [← hj] at e8
  exact e8
 rw [← hj] at e3
 exact e3
theorem runs_no {k : Nat} (hk : 1000 ≤ k) {n ap : Int} {T : Tb} (hT : SmB T) (h : NoS T) (ev : List EvH) : S32 k n ap [] [] true false false [] T.1.1 T.1.2 T.2 [] [] ev = some ((), (n, ap, [], [], true, false, false, [], T.1.1, T.1.2, T.2, [], [], ev, ()), ()) := by
 unfold S32
 rw [show S63 k (n, ap, [], [], true, false, false, [], ((T.1.1, T.1.2), T.2), [], []) = _ from locks_no hk hT h, Option.bind_some, show S62 k [] (([] : List TkH).length : Int) (([], ()), ()).1.1 = _ from next_no hk, Option.bind_some]
 rfl
theorem S57a_h {k : Nat} {n ap : Int} {T : Tb} {ev : List EvH} {e : EvH} (he : ev.length ≤ 1000) : S57a k n ap [] [] true false false [] T.1.1 T.1.2 T.2 [] [] ev e = some ((), (n, ap, [], [], true, false, false, [], T.1.1, T.1.2, T.2, [], [], ev ++ [(n, e.2)], ()), ()) := by
 unfold S57a
 rw [ap_ok (by simp only [List.length_cons, List.length_nil]; omega)]
theorem L31_7_h {k : Nat} (hk : 1000 ≤ k) {g3 : Int → Int → (List TkH) → (List (PN Int 5)) → Bool → Bool → Bool → (List JbH) → (List Int) → (List Bool) → (List Th) → (List Int) → (List Bool) → (List EvH) → (List (List Int)) → (List Int) → Int → Int → Option (Unit × (Int × Int × List TkH × List (PN Int 5) × Bool × Bool × Bool × List JbH × List Int × List Bool × List Th × List Int × List Bool × List EvH × Unit) × Unit)} {n ap : Int} {T : Tb} (hT : SmB T) (h : NoS T) {who : List (List Int)} {at_ w2 i3 : Int} {pl cs : List Int} (hc : cs.length ≤ 100) : ∀ (d i j : Nat) (ev : List EvH), i + d = cs.length → d < j → ev.length ≤ 500 + i →
  L31_7 k g3 j n ap [] [] true false false [] T.1.1 T.1.2 T.2 [] [] ev who at_ pl w2 i3 cs (cs.length : Int) (i : Int) = g3 n ap [] [] true false false [] T.1.1 T.1.2 T.2 [] [] (ev ++ (cs.drop i).map (fun c => (n, 12, 0, c, 0, 15))) who pl w2 (IntKind.i64.wrap (i3 + 1))
 | 0, i, j, ev, hi, hj, he => by
  obtain ⟨j', rfl⟩ : ∃ j', j = j' + 1 := ⟨j - 1, by omega⟩
  have ei : S60 k [] at_ = some ((-1, ()), ()) := S60_eq hk (by simp)
  rw [L31_7_s, l31_7, bif_f (by omega), show S61 k ((T.1.1, T.1.2), T.2) = _ from semas_no hk hT h, Option.bind_some, ei, Option.bind_some, bif_f (by show ¬ ((-1 : Int) ≥ 0); decide), drop_nil (by omega)]
  simp
 | d + 1, i, j, ev, hi, hj, he => by
  obtain ⟨j', rfl⟩ : ∃ j', j = j' + 1 := ⟨j - 1, by omega⟩
  rw [L31_7_s, l31_7, bif_t (by omega), ix_nat (by omega), S57a_h (by omega), Option.bind_some]
  simp only
  rw [w64_nat (by omega), L31_7_h hk hT h hc d (i + 1) j' _ (by omega) (by omega) (by simp; omega), drop_cons 0 (show i < cs.length by omega), List.map_cons, List.append_assoc]
  rfl
def audE (n : Int) : List Int → List (List Int) → List EvH
 | a :: pl, w :: who => (n, 11, 0, a, 0, 0) :: (w.map (fun c => (n, 12, 0, c, 0, 15)) ++ audE n pl who)
 | _, _ => []
theorem L31_3_h {k : Nat} (hk : 1000 ≤ k) {n ap : Int} {T : Tb} (hT : SmB T) (h : NoS T) {who : List (List Int)} {pl : List Int} (hw : who.length = pl.length) (hl : pl.length ≤ 4) (hw2 : ∀ w ∈ who, w.length ≤ 50) : ∀ (d i j : Nat) (ev : List EvH), i + d = pl.length → d < j → ev.length ≤ 100 * i →
  L31_3 k j n ap [] [] true false false [] T.1.1 T.1.2 T.2 [] [] ev who pl (pl.length : Int) (i : Int) = some ((), (n, ap, [], [], true, false, false, [], T.1.1, T.1.2, T.2, [], [], ev ++ audE n (pl.drop i) (who.drop i), ()), ())
 | 0, i, j, ev, hi, hj, he => by
  obtain ⟨j', rfl⟩ : ∃ j', j = j' + 1 := ⟨j - 1, by omega⟩
  rw [L31_3_s, l31_3, bif_f (by omega), drop_nil (by omega)]
  simp [audE]
 | d + 1, i, j, ev, hi, hj, he => by
  obtain ⟨j', rfl⟩ : ∃ j', j = j' + 1 := ⟨j - 1, by omega⟩
  have hiw : i < who.length := by omega
  have hwi := hw2 _ (getD_mem (z := []) hiw)
  rw [L31_3_s, l31_3, bif_t (by omega), ix_nat (by omega), rd_nat, S57a_h (by omega), Option.bind_some, ix_nat hiw, rd_nat]
  simp only
  have e := L31_7_h (g3 := L31_3 k j') (n := n) (ap := ap) (who := who) (at_ := pl.getD i 0) (w2 := (pl.length : Int)) (i3 := (i : Int)) (pl := pl) (cs := who.getD i []) hk hT h (by omega) (who.getD i []).length 0 k (ev ++ [(n, 11, 0, pl.getD i 0, 0, 0)]) (by omega) (by omega) (by simp; omega)
  rw [List.drop_zero, w64_nat (by omega)] at e
  refine e.trans ?_
  rw [L31_3_h hk hT h hw hl hw2 d (i + 1) j' _ (by omega) (by omega) (by simp only [List.length_append, List.length_cons, List.length_nil, List.length_map, List.length_drop]; omega), drop_cons 0 (show i < pl.length by omega), drop_cons [] hiw, audE]
  simp
theorem tick_KR {k : Nat} (hk : 1000 ≤ k) (n ap : Int) {T T2 : Tb} (hT : SmB T) {pl : List Int} {who : List (List Int)} (ha : S59 k T = some ((T2, pl, who, ()), ())) (hT2 : SmB T2) (h : NoS T2) (hw : who.length = pl.length) (hl : pl.length ≤ 4) (hw2 : ∀ w ∈ who, w.length ≤ 50) :
  S12 k (KR n ap T) = some ((KR (IntKind.i64.wrap (n + 1)) ap T2, audE n pl who, ()), ()) := by
 unfold S12
 rw [twin_KR hk n ap hT, Option.bind_some]
 simp only [cond_true, Bool.not_false]
 rw [ends_no hk, Option.bind_some]
 simp only
 rw [promotes_no hk, Option.bind_some]
 simp only
 have hau : S31 k n ap [] [] true false false [] T.1.1 T.1.2 T.2 [] [] [] = some ((), (n, ap, [], [], true, false, false, [], T2.1.1, T2.1.2, T2.2, [], [], audE n pl who, ()), ()) := by
  unfold S31
  rw [show S59 k ((T.1.1, T.1.2), T.2) = _ from ha, Option.bind_some]
  have := L31_3_h (n := n) (ap := ap) hk hT2 h hw hl hw2 pl.length 0 k [] (by omega) (by omega) (by simp)
  rw [List.drop_zero, List.drop_zero, List.nil_append] at this
  exact this
 rw [hau, Option.bind_some]
 simp only
 rw [runs_no hk hT2 h, Option.bind_some]
end Go.Proofs.YtfbkmdemekjdgaaGreat.Ab

/- A thing that is turned begins anew with the next tick, who waits is told, and what is in it is gone: the law. -/
namespace Go.Proofs.YtfbkmdemekjdgaaGreat.Ab
open Go.RowKit
set_option linter.unusedSimpArgs false
set_option linter.unusedVariables false
def tY (x y : Th) : Tb := ((1 :: 1 :: List.replicate 10 0, true :: true :: List.replicate 10 false), x :: y :: List.replicate 10 th0)
noncomputable def flG (k : Nat) (f : Int × List (Int × Int)) : Th := sealT k (3, (1, 1), (0, 0), ([], []), f, 0)
noncomputable def bX (k : Nat) (tu : Bool) (b : List Int × List Int) : Th := bif tu then turnT (thB k 1 b) else thB k 1 b
theorem SmB_tY {x y : Th} (h : SmT x) (hy : SmT y) : SmB (tY x y) := ⟨⟨by simp [tY], by simp [tY], by simp [tY]⟩, fun z hz => by
 simp only [tY, List.mem_cons] at hz
 rcases hz with rfl | rfl | hz
 ·exact h
 ·exact hy
 ·rw [List.eq_of_mem_replicate hz]; exact SmT_0⟩
theorem SmT_bX (k : Nat) (tu : Bool) {b : List Int × List Int} (h1 : b.1.length ≤ 100) (h2 : b.2.length ≤ 100) : SmT (bX k tu b) := by
 cases tu
 ·exact SmT_thB k 1 h1 h2
 ·exact ⟨h1, h2, by simp [bX, turnT, thB, sealT]⟩
theorem SmT_flG (k : Nat) {f : Int × List (Int × Int)} (h1 : f.2.length ≤ 100) : SmT (flG k f) := ⟨by simp [flG, sealT], by simp [flG, sealT], h1⟩
theorem bX_kind (k : Nat) (tu : Bool) (b : List Int × List Int) : (bX k tu b).1 = 2 := by cases tu <;> rfl
theorem find_Y0 {x y : Th} (hx : x.1 ≠ 0) : findV (tY x y) (0, 1) = true := by
 unfold findV hasV isTh
 show ((decide ((0 : Int) ≤ 0) && (decide ((0 : Int) < ((min 12 12 : Nat) : Int)) && (true && true))) && (decide ((0 : Int) ≤ 0) && (decide ((0 : Int) < 12) && (x.1 != 0)))) = true
 rw [show (x.1 != 0) = true from bne_iff_ne.2 hx]
 rfl
theorem find_Y1 {x y : Th} (hy : y.1 ≠ 0) : findV (tY x y) (1, 1) = true := by
 unfold findV hasV isTh
 show ((decide ((0 : Int) ≤ 1) && (decide ((1 : Int) < ((min 12 12 : Nat) : Int)) && (true && true))) && (decide ((0 : Int) ≤ 1) && (decide ((1 : Int) < 12) && (y.1 != 0)))) = true
 rw [show (y.1 != 0) = true from bne_iff_ne.2 hy]
 rfl
theorem is_Y0 {x y : Th} (hx : x.1 ≠ 0) : isTh (tY x y) 0 = true := by
 unfold isTh
 show (decide ((0 : Int) ≤ 0) && (decide ((0 : Int) < 12) && (x.1 != 0))) = true
 rw [show (x.1 != 0) = true from bne_iff_ne.2 hx]; rfl
theorem is_Y1 {x y : Th} (hy : y.1 ≠ 0) : isTh (tY x y) 1 = true := by
 unfold isTh
 show (decide ((0 : Int) ≤ 1) && (decide ((1 : Int) < 12) && (y.1 != 0))) = true
 rw [show (y.1 != 0) = true from bne_iff_ne.2 hy]; rfl
theorem put_bX (k : Nat) (tu : Bool) (b b2 : List Int × List Int) (s : Int) : putT k (bX k tu b) (2, (0, 1), (0, 0), b2, (0, []), s) = bX k tu b2 := by
 unfold putT
 cases tu with
 | false => rw [if_pos (show (bX k false b).2.2.2.2.2 = sumV k (bX k false b) from rfl)]; rfl
 | true => rw [if_neg (show ¬ (bX k true b).2.2.2.2.2 = sumV k (bX k true b) from fun e => inot_ne (sumV k (thB k 1 b)) e)]; rfl
theorem put_Y0 (k : Nat) (tu : Bool) (b b2 : List Int × List Int) (y : Th) (s : Int) : putV k (tY (bX k tu b) y) 0 (2, (0, 1), (0, 0), b2, (0, []), s) = tY (bX k tu b2) y := by
 unfold putV
 rw [if_pos (is_Y0 (by rw [bX_kind]; decide))]
 show (_, (putT k (bX k tu b) (2, (0, 1), (0, 0), b2, (0, []), s)) :: y :: List.replicate 10 th0) = _
 rw [put_bX]
 rfl
theorem put_Y1 (k : Nat) (x : Th) (f f2 : Int × List (Int × Int)) (s : Int) : putV k (tY x (flG k f)) 1 (3, (1, 1), (0, 0), ([], []), f2, s) = tY x (flG k f2) := by
 unfold putV
 rw [if_pos (is_Y1 (by show (3 : Int) ≠ 0; decide))]
 show (_, x :: (putT k (flG k f) (3, (1, 1), (0, 0), ([], []), f2, s)) :: List.replicate 10 th0) = _
 unfold putT
 rw [if_pos (show (flG k f).2.2.2.2.2 = sumV k (flG k f) from rfl)]
 rfl
theorem bX_fields (k : Nat) (tu : Bool) (b : List Int × List Int) : (bX k tu b).2.1 = (0, 1) ∧ (bX k tu b).2.2.1 = (0, 0) ∧ (bX k tu b).2.2.2.1 = b ∧ (bX k tu b).2.2.2.2.1 = (0, []) := by cases tu <;> exact ⟨rfl, rfl, rfl, rfl⟩
theorem bX_tup (k : Nat) (tu : Bool) (b b2 : List Int × List Int) : ((bX k tu b).1, (bX k tu b).2.1, (bX k tu b).2.2.1, b2, (bX k tu b).2.2.2.2) = (2, (0, 1), (0, 0), b2, (0, []), (bX k tu b).2.2.2.2.2) := by cases tu <;> rfl
theorem y_post {k : Nat} (hk : 1000 ≤ k) (n ap : Int) {tu : Bool} {L : List Int} (hL : L.length ≤ 3) {y : Th} (hy : SmT y) {a v m : Int} {t : TkH} :
  S11 k (KR n ap (tY (bX k tu (L, [])) y)) (7, t, (0, 1), a, v, m) = some ((KR n ap (tY (bX k tu (L ++ [v], [])) y), [], (0, (0, 0), 0), ()), ()) := by
 have hp : postB (L, []) v = ((L ++ [v], []), 0, true) := by
  unfold postB
  rw [bif_f (by simp), bif_f (by simp only; omega)]
 have hf := bX_fields k tu (L, [])
 have := do_postR hk n ap (SmB_tY (SmT_bX k tu (b := (L, [])) (by simp only; omega) (by simp)) hy) (a := a) (nn := v) (m := m) (h := (0, 1)) (t := t) (find_Y0 (by rw [bX_kind]; decide)) (bX_kind k tu _) (SmT_bX k tu (b := (L, [])) (by simp only; omega) (by simp)) (x := bX k tu (L, [])) rfl (by
   rw [hf.2.2.1, hp, bX_tup]; exact SmT_B k 1 (by simp; omega) (by simp) _) (by
   rw [hf.2.2.1, hp, bX_tup, put_Y0]; exact SmB_tY (SmT_bX k tu (by simp; omega) (by simp)) hy)
 rw [hf.2.2.1, hp, bX_tup, put_Y0] at this
 exact this
theorem y_take {k : Nat} (hk : 1000 ≤ k) (n ap : Int) {y : Th} (hy : SmT y) {c v m : Int} (hc : 1 ≤ c) {t : TkH} :
  S11 k (KR n ap (tY (bX k false ([], [])) y)) (8, t, (0, 1), c, v, m) = some ((KR n ap (tY (bX k false ([], [c])) y), [], (16, (0, 0), 0), ()), ()) := by
 have hp : takeB ([], []) c = (([], [c]), 0, false, true) := by
  unfold takeB
  rw [bif_f (by omega)]; rfl
 have hf := bX_fields k false ([], [])
 have := do_takeR hk n ap (SmB_tY (SmT_bX k false (b := ([], [])) (by simp) (by simp)) hy) (a := c) (nn := v) (m := m) (h := (0, 1)) (t := t) (find_Y0 (by rw [bX_kind]; decide)) (bX_kind k false _) (SmT_bX k false (b := ([], [])) (by simp) (by simp)) (x := bX k false ([], [])) rfl (by
   rw [hf.2.2.1, hp, bX_tup]; exact SmT_B k 1 (by simp) (by simp) _) (by
   rw [hf.2.2.1, hp, bX_tup, put_Y0]; exact SmB_tY (SmT_bX k false (by simp) (by simp)) hy)
 rw [hf.2.2.1, hp, bX_tup, put_Y0] at this
 exact this
theorem y_await {k : Nat} (hk : 1000 ≤ k) (n ap : Int) {x : Th} (hx : SmT x) {c v : Int} (hc : 1 ≤ c) {t : TkH} :
  S11 k (KR n ap (tY x (flG k (0, [])))) (10, t, (1, 1), c, v, 2) = some ((KR n ap (tY x (flG k (0, [(c, 2)]))), [], (16, (0, 0), 0), ()), ()) := by
 have hp : awaitF (0, []) c 2 = ((0, [(c, 2)]), 0, true) := by
  unfold awaitF
  rw [bif_f (by omega)]; rfl
 have := do_awaitR hk n ap (SmB_tY hx (SmT_flG k (f := (0, [])) (by simp))) (a := c) (nn := v) (m := 2) (h := (1, 1)) (t := t) (find_Y1 (by show (3 : Int) ≠ 0; decide)) rfl (SmT_flG k (f := (0, [])) (by simp)) (x := flG k (0, [])) rfl (by
   rw [show (flG k (0, [])).2.2.2.2.1 = (0, []) from rfl, hp]; exact ⟨by simp [flG, sealT], by simp [flG, sealT], by simp⟩) (by
   rw [show (flG k (0, [])).2.2.2.2.1 = (0, []) from rfl, hp, show ((flG k (0, [])).1, (flG k (0, [])).2.1, (flG k (0, [])).2.2.1, (flG k (0, [])).2.2.2.1, (((0, [(c, 2)]), 0, true) : (Int × List (Int × Int)) × Int × Bool).1, (flG k (0, [])).2.2.2.2.2) = (3, (1, 1), (0, 0), ([], []), (0, [(c, 2)]), (flG k (0, [])).2.2.2.2.2) from rfl, put_Y1]
   exact SmB_tY hx (SmT_flG k (by simp)))
 rw [show (flG k (0, [])).2.2.2.2.1 = (0, []) from rfl, hp, show ((flG k (0, [])).1, (flG k (0, [])).2.1, (flG k (0, [])).2.2.1, (flG k (0, [])).2.2.2.1, (((0, [(c, 2)]), 0, true) : (Int × List (Int × Int)) × Int × Bool).1, (flG k (0, [])).2.2.2.2.2) = (3, (1, 1), (0, 0), ([], []), (0, [(c, 2)]), (flG k (0, [])).2.2.2.2.2) from rfl, put_Y1] at this
 exact this
theorem y_raise {k : Nat} (hk : 1000 ≤ k) (n ap : Int) {x : Th} (hx : SmT x) {a v : Int} {t : TkH} :
  ∃ T, S11 k (KR n ap (tY x (flG k (0, [])))) (9, t, (1, 1), a, v, 2) = some ((KR n ap T, [], (0, (0, 0), 0), ()), ()) := by
 have hp : raiseF (0, []) 2 = ((ior .u32 0 2, []), []) := rfl
 have := do_raiseR hk n ap (SmB_tY hx (SmT_flG k (f := (0, [])) (by simp))) (a := a) (nn := v) (m := 2) (h := (1, 1)) (t := t) (find_Y1 (by show (3 : Int) ≠ 0; decide)) rfl (x := flG k (0, [])) rfl (by simp [flG, sealT]) (by
   rw [show (flG k (0, [])).2.2.2.2.1 = (0, []) from rfl, hp]; exact ⟨by simp [flG, sealT], by simp [flG, sealT], by simp⟩) (by
   rw [show (flG k (0, [])).2.2.2.2.1 = (0, []) from rfl, hp, show ((flG k (0, [])).1, (flG k (0, [])).2.1, (flG k (0, [])).2.2.1, (flG k (0, [])).2.2.2.1, (((ior .u32 0 2, []), []) : (Int × List (Int × Int)) × List (Int × Int)).1, (flG k (0, [])).2.2.2.2.2) = (3, (1, 1), (0, 0), ([], []), (ior .u32 0 2, []), (flG k (0, [])).2.2.2.2.2) from rfl, put_Y1]
   exact SmB_tY hx (SmT_flG k (by simp)))
 rw [show (flG k (0, [])).2.2.2.2.1 = (0, []) from rfl, hp] at this
 exact ⟨_, this⟩
theorem do_call {k : Nat} {K K2 : KnH} {c : Int × TkH × (Int × Int) × Int × Int × Int} {ev : List EvH} {r : Int × (Int × Int) × Int} {a b : Int} (h : S11 k K c = some ((K2, ev, r, ()), ())) : S9 k K (1, c, a, b) = some ((K2, ev, r, ()), ()) := by
 unfold S9
 simp only [beq_self_eq_true, cond_true]
 rw [h, Option.bind_some]
theorem do_tick {k : Nat} {K K2 : KnH} {c : Int × TkH × (Int × Int) × Int × Int × Int} {ev : List EvH} {a b : Int} (h : S12 k K = some ((K2, ev, ()), ())) : S9 k K (2, c, a, b) = some ((K2, ev, (0, (0, 0), 0), ()), ()) := by
 unfold S9
 simp only [show ((2 : Int) == 1) = false from rfl, beq_self_eq_true, cond_true, cond_false]
 rw [h, Option.bind_some]
theorem rel_KR {k : Nat} (hk : 1000 ≤ k) (n ap : Int) {T : Tb} (hT : SmB T) : S14 k (KR n ap T) (-1) 0 = some ((KR n ap T, [], 3, ()), ()) := by
 unfold S14
 rw [twin_KR hk n ap hT, Option.bind_some]
 rfl
theorem do_turn {k : Nat} (hk : 1000 ≤ k) (n ap : Int) {T : Tb} (hT : SmB T) {c : Int × TkH × (Int × Int) × Int × Int × Int} {i b : Int} (hi : isTh T i = true) (hT2 : SmB (turnV T i)) : S9 k (KR n ap T) (4, c, i, b) = some ((KR n ap (turnV T i), [], (0, (0, 0), 0), ()), ()) := by
 unfold S9
 simp only [show ((4 : Int) == 1) = false from rfl, show ((4 : Int) == 2) = false from rfl, show ((4 : Int) == 3) = false from rfl, beq_self_eq_true, cond_true, cond_false]
 rw [S13_eq hk hT, Option.bind_some, hi]
 simp only [Bool.not_true, cond_false]
 rw [show S14 k (n, ap, [], [], true, false, false, [], turnV T i, [], []) (-1) 0 = _ from rel_KR hk n ap hT2, Option.bind_some]
theorem rest_th0 {x y : Th} {j : Nat} (h : 2 ≤ j) : (tY x y).2.getD j th0 = th0 := by
 obtain ⟨m, rfl⟩ : ∃ m, j = m + 2 := ⟨j - 2, by omega⟩
 show (List.replicate 10 th0).getD m th0 = th0
 by_cases hm : m < 10
 ·exact List.eq_of_mem_replicate (n := 10) (getD_mem (z := th0) (by simpa using hm))
 ·exact getD_out (by simpa using hm)
theorem NoS_tY {x y : Th} (hx : x.1 ≠ 1) (hy : y.1 ≠ 1) : NoS (tY x y) := fun z hz => by
 simp only [tY, List.mem_cons] at hz
 rcases hz with rfl | rfl | hz
 ·exact hx
 ·exact hy
 ·rw [List.eq_of_mem_replicate hz]; decide
theorem aud_both {k : Nat} (hk : 1000 ≤ k) {L : List Int} (hL : L.length ≤ 10) (c : Int) : S59 k (tY (bX k true (L, [])) (turnT (flG k (0, [(c, 2)])))) = some ((tY (bX k false ([], [])) (flG k (0, [])), [0, 1], [[], [c]], ()), ()) := by
 have hs := SmB_tY (SmT_bX k true (b := (L, [])) (by simp only; omega) (by simp)) (show SmT (turnT (flG k (0, [(c, 2)]))) from ⟨by simp [turnT, flG, sealT], by simp [turnT, flG, sealT], by simp [turnT, flG, sealT]⟩)
 rw [S59_eq hk hs]
 have t0 : trn k (bX k true (L, [])) = true := by
  unfold trn
  rw [Bool.and_eq_true]
  exact ⟨rfl, bne_iff_ne.2 (fun e => inot_ne (sumV k (thB k 1 (L, []))) e)⟩
 have t1 : trn k (turnT (flG k (0, [(c, 2)]))) = true := by
  unfold trn
  rw [Bool.and_eq_true]
  exact ⟨rfl, bne_iff_ne.2 (fun e => inot_ne (sumV k (flG k (0, [(c, 2)]))) e)⟩
 have e : aud k (tY (bX k true (L, [])) (turnT (flG k (0, [(c, 2)])))).2 12 0 ((tY (bX k true (L, [])) (turnT (flG k (0, [(c, 2)])))).2, [], []) = ((tY (bX k false ([], [])) (flG k (0, []))).2, [0, 1], [[], [c]]) := by
  rw [aud, show (tY (bX k true (L, [])) (turnT (flG k (0, [(c, 2)])))).2.getD 0 th0 = bX k true (L, []) from rfl, if_pos t0, aud, show (tY (bX k true (L, [])) (turnT (flG k (0, [(c, 2)])))).2.getD (0 + 1) th0 = turnT (flG k (0, [(c, 2)])) from rfl, if_pos t1]
  rw [aud_none 10 (0 + 1 + 1) _ (fun j h1 h2 => by rw [rest_th0 (by omega)]; rfl)]
  rfl
 rw [show (tY (bX k true (L, [])) (turnT (flG k (0, [(c, 2)])))).2.length = 12 from rfl, e]
 rfl
theorem aud_no {k : Nat} (hk : 1000 ≤ k) {b : List Int × List Int} (h1 : b.1.length ≤ 100) (h2 : b.2.length ≤ 100) {f : Int × List (Int × Int)} (hf : f.2.length ≤ 100) : S59 k (tY (bX k false b) (flG k f)) = some ((tY (bX k false b) (flG k f), [], [], ()), ()) := by
 have hs := SmB_tY (SmT_bX k false h1 h2) (SmT_flG k hf)
 have t0 : trn k (bX k false b) = false := by
  unfold trn
  rw [show ((bX k false b).2.2.2.2.2 != sumV k (bX k false b)) = false from bne_self_eq_false _, Bool.and_false]
 have t1 : trn k (flG k f) = false := by
  unfold trn
  rw [show ((flG k f).2.2.2.2.2 != sumV k (flG k f)) = false from bne_self_eq_false _, Bool.and_false]
 rw [S59_eq hk hs, aud_none _ 0 _ (fun j h3 h4 => by
  by_cases e0 : j = 0
  ·subst e0; exact t0
  ·by_cases e1 : j = 1
   ·subst e1; exact t1
   ·rw [rest_th0 (by omega)]; rfl)]
theorem all3 {k : Nat} (hk : 1000 ≤ k) : S8 k 10 [(1, (3, tkH, (0, 0), 0, 0, 0), 0, 0), (1, (4, tkH, (0, 0), 0, 0, 0), 0, 0), (1, (5, tkH, (0, 0), 0, 0, 0), 0, 0)] = some ((KR 0 10 (tY (bX k false ([], [])) (flG k (0, []))), [], [(0, (0, 1), 0), (0, (1, 1), 0), (0, (0, 0), 0)], true, ()), ()) := by
 obtain ⟨k, rfl⟩ : ∃ m, k = m + 1000 := ⟨k - 1000, by omega⟩
 show _ = _
 kernel_rfl
end Go.Proofs.YtfbkmdemekjdgaaGreat.Ab

/- A thing that is turned begins anew with the next tick, who waits is told, and what is in it is gone: the law, whole. -/
namespace Go.Proofs.YtfbkmdemekjdgaaGreat.Ab
open Go.RowKit
set_option linter.unusedSimpArgs false
set_option linter.unusedVariables false
set_option maxRecDepth 100000
theorem j4_15_eq {k : Nat} (hk : 1000 ≤ k) {c : Int} (hc : 1 ≤ c ∧ c ≤ 256) {L : List Int} (hL : L.length ≤ 10) {a1 a2 a3 a4 a5 a6 a7 a8 a9 b1 b2 b3 : Int} :
  j4_15 k c 0 10 [] [] true false false [] (tY (bX k true (L, [])) (turnT (flG k (0, [(c, 2)])))).1.1 (tY (bX k true (L, [])) (turnT (flG k (0, [(c, 2)])))).1.2 (tY (bX k true (L, [])) (turnT (flG k (0, [(c, 2)])))).2 [] [] 0 1 1 1 0 a1 a2 a3 16 a4 a5 a6 0 a7 a8 a9 0 b1 b2 b3 = some ((true, ()), ()) := by
 have hs := SmB_tY (SmT_bX k true (b := (L, [])) (by simp only; omega) (by simp)) (show SmT (turnT (flG k (0, [(c, 2)]))) from ⟨by simp [turnT, flG, sealT], by simp [turnT, flG, sealT], by simp [turnT, flG, sealT]⟩)
 have hs1 := SmB_tY (SmT_bX k false (b := ([], [])) (by simp) (by simp)) (SmT_flG k (f := (0, [])) (by simp))
 have hs2 := SmB_tY (SmT_bX k false (b := ([], [c])) (by simp) (by simp)) (SmT_flG k (f := (0, [])) (by simp))
 have t1 := tick_KR hk 0 10 hs (aud_both hk hL c) hs1 (NoS_tY (by rw [bX_kind]; decide) (by show (3 : Int) ≠ 1; decide)) rfl (by simp) (by simp)
 have t2 := tick_KR hk (IntKind.i64.wrap (0 + 1)) 10 hs2 (aud_no hk (b := ([], [c])) (f := (0, [])) (by simp) (by simp) (by simp)) hs2 (NoS_tY (by rw [bX_kind]; decide) (by show (3 : Int) ≠ 1; decide)) rfl (by simp) (by simp)
 have k1 := y_take hk (IntKind.i64.wrap (0 + 1)) 10 (SmT_flG k (f := (0, [])) (by simp)) (c := c) (v := 0) (m := 0) (t := tkH) hc.1
 obtain ⟨T3, k2⟩ := y_raise hk (IntKind.i64.wrap (0 + 1)) 10 (SmT_bX k false (b := ([], [c])) (by simp) (by simp)) (a := 0) (v := 0) (t := tkH)
 unfold j4_15 S7
 rw [show S9 k (0, 10, [], [], true, false, false, [], (((tY (bX k true (L, [])) (turnT (flG k (0, [(c, 2)])))).1.1, (tY (bX k true (L, [])) (turnT (flG k (0, [(c, 2)])))).1.2), (tY (bX k true (L, [])) (turnT (flG k (0, [(c, 2)])))).2), [], []) (2, (0, (0, 0, 0, [], [], []), (0, 0), 0, 0, 0), 0, 0) = _ from do_tick t1, Option.bind_some, Option.bind_some]
 simp only
 rw [do_call k1, Option.bind_some, Option.bind_some]
 simp only
 rw [do_call k2, Option.bind_some, do_tick t2, Option.bind_some]
 simp only [beq_self_eq_true, cond_true]
 rw [show audE 0 [0, 1] [[], [c]] = [(0, 11, 0, 0, 0, 0), (0, 11, 0, 1, 0, 0), (0, 12, 0, c, 0, 15)] from rfl]
 rw [show ∀ (x y z : EvH), ((([x, y, z] : List EvH).length : Int) == 3) = true from fun x y z => rfl, cond_true, ix_ok (by omega) (by simp), show ∀ (x y z : EvH), rd [x, y, z] 0 (prep (α := Int) 6 0) = x from fun x y z => rfl, show beqD (arrT 6 (.int .i64)) ((0 : Int), (11 : Int), (0 : Int), (0 : Int), (0 : Int), (0 : Int)) (0, 11, 0, 0, 0, 0) = true from beq6 _ _ _ _ _ _, cond_true]
 rw [ix_ok (by omega) (by simp), show ∀ (x y z : EvH), rd [x, y, z] 1 (prep (α := Int) 6 0) = y from fun x y z => rfl, show beqD (arrT 6 (.int .i64)) ((0 : Int), (11 : Int), (0 : Int), (1 : Int), (0 : Int), (0 : Int)) (0, 11, 0, 1, 0, 0) = true from beq6 _ _ _ _ _ _, cond_true]
 rw [ix_ok (by omega) (by simp), show ∀ (x y z : EvH), rd [x, y, z] 2 (prep (α := Int) 6 0) = z from fun x y z => rfl, show beqD (arrT 6 (.int .i64)) ((0 : Int), (12 : Int), (0 : Int), c, (0 : Int), (15 : Int)) (0, 12, 0, c, 0, 15) = true from beq6 _ _ _ _ _ _, cond_true]
 rfl
theorem trialTurns_pure {n cl bt : Int} (h2 : 0 ≤ cl ∧ cl ≤ 255) (h3 : 0 ≤ bt ∧ bt ≤ 255) {k : Nat} (hk : 20000 ≤ k) : S4 k n cl bt = some ((true, ()), ()) := by
 have hk1 : 1000 ≤ k := by omega
 have hc : IntKind.i64.wrap (1 + IntKind.i64.wrap cl) = 1 + cl := by rw [w64 (n := cl) (by omega) (by omega), w64 (by omega) (by omega)]
 have hfl : ∀ f : Int × List (Int × Int), f.2.length ≤ 1 → SmT (flG k f) := fun f h => SmT_flG k (by omega)
 have p1 := y_post hk1 0 10 (tu := false) (L := []) (by simp) (hfl (0, []) (by simp)) (a := 0) (v := n) (m := 0) (t := tkH)
 have p2 := y_await hk1 0 10 (SmT_bX k false (b := ([n], [])) (by simp) (by simp)) (c := 1 + cl) (v := 0) (t := tkH) (by omega)
 have s3 := SmB_tY (SmT_bX k false (b := ([n], [])) (by simp) (by simp)) (hfl (0, [(1 + cl, 2)]) (by simp))
 have e4 : turnV (tY (bX k false ([n], [])) (flG k (0, [(1 + cl, 2)]))) 0 = tY (bX k true ([n], [])) (flG k (0, [(1 + cl, 2)])) := by
  unfold turnV
  rw [if_pos (is_Y0 (by rw [bX_kind]; decide))]
  rfl
 have s4 := SmB_tY (SmT_bX k true (b := ([n], [])) (by simp) (by simp)) (hfl (0, [(1 + cl, 2)]) (by simp))
 have p4 := do_turn hk1 0 10 s3 (c := (0, tkH, (0, 0), 0, 0, 0)) (i := 0) (b := 0) (is_Y0 (by rw [bX_kind]; decide)) (by rw [e4]; exact s4)
 rw [e4] at p4
 have e5 : turnV (tY (bX k true ([n], [])) (flG k (0, [(1 + cl, 2)]))) 1 = tY (bX k true ([n], [])) (turnT (flG k (0, [(1 + cl, 2)]))) := by
  unfold turnV
  rw [if_pos (is_Y1 (by show (3 : Int) ≠ 0; decide))]
  rfl
 have hT : SmT (turnT (flG k (0, [(1 + cl, 2)]))) := ⟨by simp [turnT, flG, sealT], by simp [turnT, flG, sealT], by simp [turnT, flG, sealT]⟩
 have s5 := SmB_tY (SmT_bX k true (b := ([n], [])) (by simp) (by simp)) hT
 have p5 := do_turn hk1 0 10 s4 (c := (0, tkH, (0, 0), 0, 0, 0)) (i := 1) (b := 0) (is_Y1 (by show (3 : Int) ≠ 0; decide)) (by rw [e5]; exact s5)
 rw [e5] at p5
 have p6 := y_post hk1 0 10 (tu := true) (L := [n]) (by simp) hT (a := 0) (v := 8) (m := 0) (t := tkH)
 unfold S4
 rw [S5_eq hk]
 simp only [Option.bind_some, Bool.not_true, cond_false]
 unfold S7
 simp only [Option.bind_some]
 rw [all3 hk1, Option.bind_some]
 simp only [Bool.not_true, cond_false, List.length_cons, List.length_nil]
 rw [show (((0 + 1 + 1 + 1 : Nat) : Int) != 3) = false from rfl, cond_false, ix_ok (by omega) (by simp), ix_ok (by omega) (by simp)]
 rw [show ∀ (x y z : Int × (Int × Int) × Int), rd [x, y, z] 0 (0, (0, 0), 0) = x from fun x y z => rfl, show ∀ (x y z : Int × (Int × Int) × Int), rd [x, y, z] 1 (0, (0, 0), 0) = y from fun x y z => rfl, hc]
 simp only
 rw [do_call p1, Option.bind_some]
 simp only [List.nil_append]
 rw [do_call p2, Option.bind_some]
 simp only
 rw [p4, Option.bind_some]
 simp only
 rw [p5, Option.bind_some]
 simp only
 cases Int.tmod bt 2 == 1 with
 | false => exact j4_15_eq hk1 (by omega) (L := [n]) (by simp) (a1 := 0) (a2 := 0) (a3 := 0) (a4 := 0) (a5 := 0) (a6 := 0) (a7 := 0) (a8 := 0) (a9 := 0) (b1 := 0) (b2 := 0) (b3 := 0)
 | true =>
  simp only [cond_true]
  rw [do_call p6, Option.bind_some]
  exact j4_15_eq hk1 (by omega) (L := [n, 8]) (by simp) (a1 := 0) (a2 := 0) (a3 := 0) (a4 := 0) (a5 := 0) (a6 := 0) (a7 := 0) (a8 := 0) (a9 := 0) (b1 := 0) (b2 := 0) (b3 := 0)
theorem trialTurns_law (n cl bt : Int) (_ : Ty.fine (.int .i64) n) (h2 : Ty.fine (.int .u8) cl) (h3 : Ty.fine (.int .u8) bt) : ∃ k, S4 k n cl bt = some ((true, ()), ()) := ⟨20000, trialTurns_pure (wf_u8h h2) (wf_u8h h3) (by omega)⟩
end Go.Proofs.YtfbkmdemekjdgaaGreat.Ab
