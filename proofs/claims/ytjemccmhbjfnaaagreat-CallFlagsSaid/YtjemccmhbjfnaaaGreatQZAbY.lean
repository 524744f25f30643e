import Derived.Test.YtjemccmhbjfnaaaGreatPbC
import Derived.Test.YtjemccmhbjfnaaaGreatAbY0
import Derived.Test.YtjemccmhbjfnaaaGreatAbY1
import Derived.KernelRfl
/- The plain law, and what it hangs on. -/
/- Small laws of lists, of loops with a counter, of searches, of arrays as lists. -/
namespace Go.Proofs.YtjemccmhbjfnaaaGreat.Ab
open Go.RowKit
set_option linter.unusedSimpArgs false
set_option linter.unusedVariables false
section
variable {σ R α : Type}
abbrev I4 : Type := Int × Int × Int × Int
theorem getD_in {l : List α} {n : Nat} {z : α} (h : n < l.length) : l.getD n z = l[n] := by
 simp [List.getD_eq_getElem?_getD, List.getElem?_eq_getElem h]
theorem set_get {l : List α} {x y : Nat} {v z : α} : (l.set x v).getD y z = if x = y ∧ y < l.length then v else l.getD y z := by
 simp only [List.getD_eq_getElem?_getD, List.getElem?_set]
 by_cases h : x = y
 ·subst h
  by_cases h2 : x < l.length
  ·simp [h2]
  ·simp [h2]
 ·simp [h]
theorem drop_cons {l : List α} {i : Nat} (z : α) (h : i < l.length) : l.drop i = l.getD i z :: l.drop (i + 1) := by
 rw [List.drop_eq_getElem_cons h, getD_in h]
theorem drop_nil {l : List α} {i : Nat} (h : i = l.length) : l.drop i = [] := List.drop_eq_nil_of_le (by omega)
theorem getD_mem {l : List α} {i : Nat} {z : α} (h : i < l.length) : l.getD i z ∈ l := by rw [getD_in h]; exact List.getElem_mem h
def goF (f : Nat → σ → σ) : Nat → Nat → σ → σ
 | 0, _, s => s
 | m + 1, i, s => goF f m (i + 1) (f i s)
theorem loopF {L : Nat → σ → Int → Option R} {n : Nat} (inv : Nat → σ → Prop) (f : Nat → σ → σ) (fin : σ → Option R)
  (hs : ∀ j i s, i < n → inv i s → L (j + 1) s (i : Int) = L j (f i s) ((i + 1 : Nat) : Int))
  (hi : ∀ i s, i < n → inv i s → inv (i + 1) (f i s))
  (he : ∀ j s, inv n s → L (j + 1) s (n : Int) = fin s) :
  ∀ (m i j : Nat) (s : σ), i + m = n → m < j → inv i s → L j s i = fin (goF f m i s)
 | 0, i, j, s, h, hj, hv => by
  obtain ⟨j', rfl⟩ : ∃ j', j = j' + 1 := ⟨j - 1, by omega⟩
  have : i = n := by omega
  subst this; exact he j' s hv
 | m + 1, i, j, s, h, hj, hv => by
  obtain ⟨j', rfl⟩ : ∃ j', j = j' + 1 := ⟨j - 1, by omega⟩
  rw [hs j' i s (by omega) hv, goF]
  exact loopF inv f fin hs hi he m (i + 1) j' _ (by omega) (by omega) (hi i s (by omega) hv)
theorem goF_inv {inv : Nat → σ → Prop} {f : Nat → σ → σ} {n : Nat} (hi : ∀ i s, i < n → inv i s → inv (i + 1) (f i s)) : ∀ (m i : Nat) (s : σ), i + m = n → inv i s → inv n (goF f m i s)
 | 0, i, s, h, hv => by
  have : i = n := by omega
  subst this; exact hv
 | m + 1, i, s, h, hv => goF_inv hi m (i + 1) _ (by omega) (hi i s (by omega) hv)
def idxI (f : α → Bool) (xs : List α) : Int := match xs.findIdx? f with | some n => (n : Int) | none => -1
theorem idx_gen (L : Nat → Int → Option ((Int × Unit) × Unit)) (xs : List α) (z : α) (f : α → Bool)
  (hs : ∀ (j n : Nat), n < xs.length → L (j + 1) (n : Int) = bif f (xs.getD n z) then some (((n : Int), ()), ()) else L j ((n + 1 : Nat) : Int))
  (he : ∀ j, L (j + 1) (xs.length : Int) = some ((-1, ()), ())) : ∀ (m i j : Nat), i + m = xs.length → m < j →
   L j i = some (((match (xs.drop i).findIdx? f with | some n => ((i + n : Nat) : Int) | none => -1), ()), ())
 | 0, i, j, h, hj => by
  obtain ⟨j', rfl⟩ : ∃ j', j = j' + 1 := ⟨j - 1, by omega⟩
  have : i = xs.length := by omega
  subst this; rw [he, List.drop_length]; rfl
 | m + 1, i, j, h, hj => by
  obtain ⟨j', rfl⟩ : ∃ j', j = j' + 1 := ⟨j - 1, by omega⟩
  have hlt : i < xs.length := by omega
  rw [hs j' i hlt, drop_cons z hlt, List.findIdx?_cons, idx_gen L xs z f hs he m (i + 1) j' (by omega) (by omega)]
  cases f (xs.getD i z) with
  | true => simp
  | false =>
   simp only [cond_false, Bool.false_eq_true, if_false]
   cases (xs.drop (i + 1)).findIdx? f with
   | none => rfl
   | some n => simp only [Option.map_some]; congr 4; omega
theorem idx_all (L : Nat → Int → Option ((Int × Unit) × Unit)) (xs : List α) (z : α) (f : α → Bool)
  (hs : ∀ (j n : Nat), n < xs.length → L (j + 1) (n : Int) = bif f (xs.getD n z) then some (((n : Int), ()), ()) else L j ((n + 1 : Nat) : Int))
  (he : ∀ j, L (j + 1) (xs.length : Int) = some ((-1, ()), ())) (j : Nat) (hj : xs.length < j) : L j 0 = some ((idxI f xs, ()), ()) := by
 have := idx_gen L xs z f hs he xs.length 0 j (by omega) hj
 rw [List.drop_zero] at this
 simpa [idxI] using this
theorem idx_ge (f : α → Bool) (s : List α) : decide (idxI f s ≥ 0) = s.any f := by
 unfold idxI
 cases h : s.findIdx? f with
 | none => rw [List.findIdx?_eq_none_iff] at h; simp; intro x hx; simpa using h x hx
 | some n =>
  have h2 := List.findIdx?_isSome (xs := s) (p := f)
  rw [h] at h2
  rw [← h2]; simp
end
end Go.Proofs.YtjemccmhbjfnaaaGreat.Ab

/- Things and tables: what their functions come to. -/
namespace Go.Proofs.YtjemccmhbjfnaaaGreat.Ab
open Go.RowKit
set_option linter.unusedSimpArgs false
set_option linter.unusedVariables false
abbrev Th : Type := Int × (Int × Int) × (Int × Int) × (List Int × List Int) × (Int × List (Int × Int)) × Int
abbrev th0 : Th := (0, (0, 0), (0, 0), ([], []), (0, []), 0)
abbrev Tb : Type := (List Int × List Bool) × List Th
def SmT (x : Th) : Prop := x.2.2.2.1.1.length ≤ 100 ∧ x.2.2.2.1.2.length ≤ 100 ∧ x.2.2.2.2.1.2.length ≤ 100
def SmB (t : Tb) : Prop := (t.1.1.length ≤ 100 ∧ t.1.2.length ≤ 100 ∧ t.2.length ≤ 100) ∧ ∀ x ∈ t.2, SmT x
theorem S79_eq {k : Nat} {x : Th} (h : SmT x) : S79 k x = some ((x, ()), ()) := by
 obtain ⟨h1, h2, h3⟩ := h
 unfold S79
 simp only [S89, S111, S125, S82]
 rw [clone_eq (by omega), Option.bind_some, clone_eq (by omega), Option.bind_some, clone_eq (by omega), Option.bind_some]
theorem S64_eq {k : Nat} (hk : 1000 ≤ k) {t : Tb} (h : SmB t) : S64 k t = some ((t, ()), ()) := by
 obtain ⟨⟨h1, h2, h3⟩, h4⟩ := h
 unfold S64
 simp only [S89, S111, S125, S82]
 rw [clone_eq (by omega), Option.bind_some, clone_eq (by omega), Option.bind_some]
 have := loopF (L := fun j (out : List Th) i => L64_3 k j t.1.1 t.1.2 out t.2 (t.2.length : Int) i) (n := t.2.length) (fun i out => out = t.2.take i)
  (fun i out => out ++ [t.2.getD i th0]) (fun out => some ((((t.1.1, t.1.2), out), ()), ()))
  (fun j i out hi hv => by
   show L64_3 k (j + 1) t.1.1 t.1.2 out t.2 (t.2.length : Int) (i : Int) = _
   have hl : out.length ≤ 100 := by rw [hv, List.length_take]; omega
   rw [L64_3_s, l64_3, bif_t (by omega), ix_nat hi, rd_nat, S79_eq (h4 _ (getD_mem hi)), Option.bind_some, ap_ok (by simp only [List.length_cons, List.length_nil]; omega), w64_nat (by omega)])
  (fun i out hi hv => by rw [hv, List.take_add_one, getD_in hi, List.getElem?_eq_getElem hi]; rfl)
  (fun j out hv => by
   show L64_3 k (j + 1) t.1.1 t.1.2 out t.2 (t.2.length : Int) (t.2.length : Int) = _
   rw [L64_3_s, l64_3, bif_f (by omega)]) t.2.length 0 k [] (by omega) (by omega) (by simp)
 have hg := goF_inv (inv := fun i (out : List Th) => out = t.2.take i) (f := fun i out => out ++ [t.2.getD i th0]) (n := t.2.length) (fun i out hi hv => by rw [hv, List.take_add_one, getD_in hi, List.getElem?_eq_getElem hi]; rfl) t.2.length 0 [] (by omega) (by simp)
 refine Eq.trans this ?_
 rw [hg, List.take_length]
/-! ### seals -/
def sumL (x : Th) : List Int := ([x.1, x.2.1.1, x.2.1.2, x.2.2.1.1, x.2.2.1.2, (x.2.2.2.1.1.length : Int)] ++ x.2.2.2.1.1 ++ [(x.2.2.2.1.2.length : Int)] ++ x.2.2.2.1.2 ++ [IntKind.i64.wrap x.2.2.2.2.1.1]) ++ x.2.2.2.2.1.2.flatMap (fun w => [w.1, IntKind.i64.wrap w.2])
theorem flat_len2 (l : List (Int × Int)) : (l.flatMap (fun w => [w.1, IntKind.i64.wrap w.2])).length = 2 * l.length := by
 induction l with
 | nil => rfl
 | cons x r ih => simp only [List.flatMap_cons, List.length_append, ih, List.length_cons, List.length_nil]; omega
theorem L80_11_eq {k : Nat} {ws : List (Int × Int)} (hw : ws.length ≤ 100) : ∀ (m i j : Nat) (l : List Int), i + m = ws.length → m < j → l.length ≤ 1002 + 2 * i → L80_11 k j l ws (ws.length : Int) (i : Int) = S126 k (l ++ (ws.drop i).flatMap (fun w => [w.1, IntKind.i64.wrap w.2]))
 | 0, i, j, l, h, hj, hl => by
  obtain ⟨j', rfl⟩ : ∃ j', j = j' + 1 := ⟨j - 1, by omega⟩
  rw [L80_11_s, l80_11, bif_f (by omega), drop_nil (by omega), List.flatMap_nil, List.append_nil]
  cases S126 k l <;> rfl
 | m + 1, i, j, l, h, hj, hl => by
  obtain ⟨j', rfl⟩ : ∃ j', j = j' + 1 := ⟨j - 1, by omega⟩
  rw [L80_11_s, l80_11, bif_t (by omega), ix_nat (by omega), rd_nat, ap_ok (by simp only [List.length_cons, List.length_nil]; omega), w64_nat (by omega), drop_cons (0, 0) (show i < ws.length by omega), List.flatMap_cons, ← List.append_assoc]
  exact L80_11_eq hw m (i + 1) j' _ (by omega) (by omega) (by simp only [List.length_append, List.length_cons, List.length_nil]; omega)
theorem L80_5_eq {k : Nat} (hk : 1000 ≤ k) {x1 x2 x3 x4 x5 x8 x10 : Int} {x6 x7 : List Int} {ws : List (Int × Int)} {tw : List Int} (hw : ws.length ≤ 100) (ht : tw.length ≤ 100) : ∀ (m i j : Nat) (l : List Int), i + m = tw.length → m < j → l.length ≤ 500 + i →
  L80_5 k j x1 x2 x3 x4 x5 x6 x7 x8 ws x10 l tw (tw.length : Int) (i : Int) = S126 k (l ++ tw.drop i ++ [IntKind.i64.wrap x8] ++ ws.flatMap (fun w => [w.1, IntKind.i64.wrap w.2]))
 | 0, i, j, l, h, hj, hl => by
  obtain ⟨j', rfl⟩ : ∃ j', j = j' + 1 := ⟨j - 1, by omega⟩
  rw [L80_5_s, l80_5, bif_f (by omega), drop_nil (by omega), List.append_nil, ap_ok (by simp only [List.length_cons, List.length_nil]; omega)]
  have := L80_11_eq (k := k) hw ws.length 0 k (l ++ [IntKind.i64.wrap x8]) (by omega) (by omega) (by simp only [List.length_append, List.length_cons, List.length_nil]; omega)
  rw [List.drop_zero] at this
  exact this
 | m + 1, i, j, l, h, hj, hl => by
  obtain ⟨j', rfl⟩ : ∃ j', j = j' + 1 := ⟨j - 1, by omega⟩
  rw [L80_5_s, l80_5, bif_t (by omega), ix_nat (by omega), rd_nat, ap_ok (by simp only [List.length_cons, List.length_nil]; omega), w64_nat (by omega), L80_5_eq hk hw ht m (i + 1) j' _ (by omega) (by omega) (by simp only [List.length_append, List.length_cons, List.length_nil]; omega), drop_cons 0 (show i < tw.length by omega)]
  simp only [List.append_assoc, List.cons_append, List.nil_append]
theorem S80_list {k : Nat} (hk : 1000 ≤ k) {x : Th} (h : SmT x) : S80 k x = S126 k (sumL x) := by
 obtain ⟨h1, h2, h3⟩ := h
 unfold S80
 rw [ap_ok (by simp only [List.length_cons, List.length_nil]; omega), ap_ok (by simp only [List.length_append, List.length_cons, List.length_nil]; omega)]
 have := L80_5_eq hk (x1 := x.1) (x2 := x.2.1.1) (x3 := x.2.1.2) (x4 := x.2.2.1.1) (x5 := x.2.2.1.2) (x8 := x.2.2.2.2.1.1) (x10 := x.2.2.2.2.2) (x6 := x.2.2.2.1.1) (x7 := x.2.2.2.1.2) h3 h2 x.2.2.2.1.2.length 0 k ([x.1, x.2.1.1, x.2.1.2, x.2.2.1.1, x.2.2.1.2, (x.2.2.2.1.1.length : Int)] ++ x.2.2.2.1.1 ++ [(x.2.2.2.1.2.length : Int)]) (by omega) (by omega) (by simp only [List.length_append, List.length_cons, List.length_nil]; omega)
 rw [List.drop_zero] at this
 exact this
theorem L126_6_some {k : Nat} {g3 : Int → List Int → Int → Int → Option ((Int × Unit) × Unit)} {l : List Int} {n i : Int} : ∀ (m a j : Nat) (h u : Int), a + m = 8 → m < j → ∃ v, L126_6 k g3 j h u (a : Int) l n i = g3 v l n (IntKind.i64.wrap (i + 1))
 | 0, a, j, h, u, ha, hj => by
  obtain ⟨j', rfl⟩ : ∃ j', j = j' + 1 := ⟨j - 1, by omega⟩
  rw [L126_6_s, l126_6, bif_f (by omega)]
  exact ⟨h, rfl⟩
 | m + 1, a, j, h, u, ha, hj => by
  obtain ⟨j', rfl⟩ : ∃ j', j = j' + 1 := ⟨j - 1, by omega⟩
  rw [L126_6_s, l126_6, bif_t (by omega), w64_nat (by omega)]
  exact L126_6_some m (a + 1) j' _ _ (by omega) (by omega)
theorem L126_3_some {k : Nat} (hk : 1000 ≤ k) {l : List Int} (hl : l.length ≤ 100000) : ∀ (m i j : Nat) (h : Int), i + m = l.length → m < j → ∃ v, L126_3 k j h l (l.length : Int) (i : Int) = some ((v, ()), ())
 | 0, i, j, h, ha, hj => by
  obtain ⟨j', rfl⟩ : ∃ j', j = j' + 1 := ⟨j - 1, by omega⟩
  rw [L126_3_s, l126_3, bif_f (by omega)]
  exact ⟨h, rfl⟩
 | m + 1, i, j, h, ha, hj => by
  obtain ⟨j', rfl⟩ : ∃ j', j = j' + 1 := ⟨j - 1, by omega⟩
  rw [L126_3_s, l126_3, bif_t (by omega), ix_nat (by omega)]
  obtain ⟨v, hv⟩ := L126_6_some (k := k) (g3 := fun h t8 t9 t10 => L126_3 k j' h t8 t9 t10) (l := l) (n := (l.length : Int)) (i := (i : Int)) 8 0 k h (IntKind.u64.wrap (rd l (i : Int) 0)) (by omega) (by omega)
  obtain ⟨w, hw⟩ := L126_3_some hk hl m (i + 1) j' v (by omega) (by omega)
  refine ⟨w, Eq.trans hv ?_⟩
  show L126_3 k j' v l (l.length : Int) (IntKind.i64.wrap ((i : Int) + 1)) = _
  rw [w64_nat (by omega)]; exact hw
theorem S126_some {k : Nat} (hk : 1000 ≤ k) {l : List Int} (hl : l.length < k) (hl2 : l.length ≤ 100000) : ∃ v, S126 k l = some ((v, ()), ()) := by
 unfold S126
 exact L126_3_some hk hl2 l.length 0 k _ (by omega) (by omega)
theorem sumL_len {x : Th} (h : SmT x) : (sumL x).length ≤ 500 := by
 obtain ⟨h1, h2, h3⟩ := h
 have := flat_len2 x.2.2.2.2.1.2
 unfold sumL
 simp only [List.length_append, List.length_cons, List.length_nil] at this ⊢
 omega
noncomputable def sumV (k : Nat) (x : Th) : Int := match S126 k (sumL x) with | some q => q.1.1 | none => 0
theorem S80_eq {k : Nat} (hk : 1000 ≤ k) {x : Th} (h : SmT x) : S80 k x = some ((sumV k x, ()), ()) := by
 rw [S80_list hk h]
 have hl := sumL_len h
 obtain ⟨v, hv⟩ := S126_some hk (l := sumL x) (by omega) (by omega)
 unfold sumV; rw [hv]
noncomputable def sealT (k : Nat) (x : Th) : Th := (x.1, x.2.1, x.2.2.1, x.2.2.2.1, x.2.2.2.2.1, sumV k x)
theorem S66_eq {k : Nat} (hk : 1000 ≤ k) {x : Th} (h : SmT x) : S66 k x = some ((sealT k x, ()), ()) := by
 unfold S66; rw [S80_eq hk h]; rfl
def isTh (t : Tb) (i : Int) : Bool := decide (0 ≤ i) && (decide (i < (t.2.length : Int)) && (rd t.2 i th0).1 != 0)
theorem S78_eq {k : Nat} {t : Tb} {i : Int} : S78 k t i = some ((isTh t i, ()), ()) := by
 unfold S78 isTh
 by_cases h : 0 ≤ i
 ·rw [bif_t h, decide_eq_true h]
  by_cases h2 : i < (t.2.length : Int)
  ·rw [bif_t h2, decide_eq_true h2, ix_ok h h2]; rfl
  ·rw [bif_f h2, decide_eq_false h2]; rfl
 ·rw [bif_f h, decide_eq_false h]; rfl
end Go.Proofs.YtjemccmhbjfnaaaGreat.Ab

/- Tables: what is put, what is turned, what begins anew. -/
namespace Go.Proofs.YtjemccmhbjfnaaaGreat.Ab
open Go.RowKit
set_option linter.unusedSimpArgs false
set_option linter.unusedVariables false
noncomputable def putT (k : Nat) (w x : Th) : Th :=
 if w.2.2.2.2.2 = sumV k w then sealT k (w.1, w.2.1, x.2.2) else ((sealT k (w.1, w.2.1, x.2.2)).1, (sealT k (w.1, w.2.1, x.2.2)).2.1, (sealT k (w.1, w.2.1, x.2.2)).2.2.1, (sealT k (w.1, w.2.1, x.2.2)).2.2.2.1, (sealT k (w.1, w.2.1, x.2.2)).2.2.2.2.1, inot .u32 (sealT k (w.1, w.2.1, x.2.2)).2.2.2.2.2)
noncomputable def putV (k : Nat) (t : Tb) (i : Int) (x : Th) : Tb := if isTh t i = true then (t.1, upd t.2 i (putT k (rd t.2 i th0) x)) else t
theorem isTh_in {t : Tb} {i : Int} (h : isTh t i = true) : 0 ≤ i ∧ i < (t.2.length : Int) ∧ (rd t.2 i th0).1 ≠ 0 := by
 unfold isTh at h
 simp only [Bool.and_eq_true, decide_eq_true_eq, bne_iff_ne, ne_eq] at h
 exact ⟨h.1, h.2.1, h.2.2⟩
theorem rd_mem {t : List Th} {i : Int} (h0 : 0 ≤ i) (h1 : i < (t.length : Int)) : rd t i th0 ∈ t := by
 obtain ⟨n, rfl⟩ : ∃ n : Nat, i = (n : Int) := ⟨i.toNat, by omega⟩
 rw [rd_nat]; exact getD_mem (by omega)
theorem S37_eq {k : Nat} (hk : 1000 ≤ k) {t : Tb} {i : Int} {x : Th} (ht : SmB t) (hx : SmT x) : S37 k t i x = some ((putV k t i x, ()), ()) := by
 unfold S37 putV
 rw [S64_eq hk ht, Option.bind_some, S78_eq, Option.bind_some]
 cases h : isTh t i with
 | false => rfl
 | true =>
  obtain ⟨h0, h1, h2⟩ := isTh_in h
  have hw : SmT (rd t.2 i th0) := ht.2 _ (rd_mem h0 h1)
  simp only [Bool.not_true, cond_false, if_true]
  rw [ix_ok h0 h1, S79_eq (x := ((rd t.2 i th0).1, (rd t.2 i th0).2.1, x.2.2)) hx, Option.bind_some]
  simp only
  rw [S66_eq hk (x := ((rd t.2 i th0).1, (rd t.2 i th0).2.1, x.2.2)) hx, Option.bind_some, S80_eq hk hw, Option.bind_some, ix_ok h0 h1, ix_ok h0 h1]
  unfold putT
  by_cases e : (rd t.2 i th0).2.2.2.2.2 = sumV k (rd t.2 i th0)
  ·rw [if_pos e, show ((rd t.2 i th0).2.2.2.2.2 != sumV k (rd t.2 i th0)) = false by simpa using e, cond_false]
  ·rw [if_neg e, show ((rd t.2 i th0).2.2.2.2.2 != sumV k (rd t.2 i th0)) = true by simpa using e, cond_true]
end Go.Proofs.YtjemccmhbjfnaaaGreat.Ab

/- Tables: what is made; what is put is sealed: the law. -/
namespace Go.Proofs.YtjemccmhbjfnaaaGreat.Ab
open Go.RowKit
set_option linter.unusedSimpArgs false
set_option linter.unusedVariables false
abbrev Sl : Type := List Int × List Bool
def freeI (s : Sl) : Int := idxI (fun b => b == false) (s.2.take (min s.1.length s.2.length))
def takeV (s : Sl) : Sl × (Int × Int) × Bool :=
 if freeI s < 0 then (s, (0, 0), false)
 else ((s.1.set (freeI s).toNat (IntKind.i64.wrap (s.1.getD (freeI s).toNat 0 + 1)), s.2.set (freeI s).toNat true), (freeI s, IntKind.i64.wrap (s.1.getD (freeI s).toNat 0 + 1)), true)
theorem idxI_range {α : Type} (f : α → Bool) (xs : List α) : idxI f xs = -1 ∨ ∃ n : Nat, n < xs.length ∧ idxI f xs = (n : Int) := by
 unfold idxI
 cases h : xs.findIdx? f with
 | none => exact .inl rfl
 | some n =>
  rw [List.findIdx?_eq_some_iff_getElem] at h
  obtain ⟨hn, _⟩ := h
  exact .inr ⟨n, hn, rfl⟩
theorem S113_eq {k : Nat} (hk : 1000 ≤ k) {s : List Bool} (h : s.length ≤ 900) : S113 k s false = some ((idxI (fun b => b == false) s, ()), ()) := by
 unfold S113
 refine idx_all (fun j i => L113_2 k j s false (s.length : Int) i) s false _ (fun j i hi => ?_) (fun j => ?_) k (by omega)
 ·show L113_2 k (j + 1) s false (s.length : Int) (i : Int) = _
  rw [L113_2_s, l113_2, bif_t (by omega), ix_nat hi, w64_nat (by omega), rd_nat]
  cases s.getD i false <;> rfl
 ·show L113_2 k (j + 1) s false (s.length : Int) (s.length : Int) = _
  rw [L113_2_s, l113_2, bif_f (by omega)]
theorem S65_eq {k : Nat} (hk : 1000 ≤ k) {s : Sl} (h1 : s.1.length ≤ 100) (h2 : s.2.length ≤ 100) : S65 k s = some (((takeV s).1, (takeV s).2.1, (takeV s).2.2, ()), ()) := by
 unfold S65 S112 S114
 simp only [S89, S111, S125, S82]
 rw [clone_eq (by omega), Option.bind_some, clone_eq (by omega), Option.bind_some, Option.bind_some, Option.bind_some, mn_eq]
 simp only
 have hm : min (s.1.length : Int) (s.2.length : Int) = ((min s.1.length s.2.length : Nat) : Int) := by omega
 have hsub : sub s.2 0 ((min s.1.length s.2.length : Nat) : Int) = s.2.take (min s.1.length s.2.length) := by simp [sub]
 rw [hm, sx_ok (by omega) (by omega) (by omega), hsub, S113_eq hk (by rw [List.length_take]; omega), Option.bind_some]
 unfold takeV
 rcases idxI_range (fun b => b == false) (s.2.take (min s.1.length s.2.length)) with e | ⟨n, hn, e⟩
 ·have hf : freeI s = -1 := e
  rw [hf, if_pos (by omega)]
  simp only [e]
  rw [bif_t (by omega)]
 ·have hf : freeI s = (n : Int) := e
  rw [List.length_take] at hn
  rw [hf, if_neg (by omega)]
  simp only [e]
  rw [bif_f (by omega), ix_nat (by omega), ix_nat (by omega), ix_nat (by omega), ix_ok (by omega) (by rw [upd_len]; omega)]
  simp only [rd_nat, upd_nat, Int.toNat_natCast]
  rw [set_get, if_pos ⟨rfl, by omega⟩]
def manyT (c : Int) (l : List Th) : Nat := l.countP (fun x => x.1 == c)
def freshT (c : Int) (h : Int × Int) : Th := (c, h, (if c = 1 then 8 else 0, 0), ([], []), (0, []), 0)
noncomputable def makeV (k : Nat) (t : Tb) (c : Int) : Tb × (Int × Int) × Bool :=
 if 4 ≤ manyT c t.2 ∨ (takeV t.1).2.2 = false ∨ (t.2.length : Int) ≤ (takeV t.1).2.1.1 then (t, (0, 0), false)
 else (((takeV t.1).1, upd t.2 (takeV t.1).2.1.1 (sealT k (freshT c (takeV t.1).2.1))), (takeV t.1).2.1, true)
theorem takeV_at (s : Sl) : 0 ≤ (takeV s).2.1.1 := by
 unfold takeV
 split
 ·simp
 ·rename_i h; simp only; omega
theorem L31_4_eq {k : Nat} (hk : 1000 ≤ k) {c a b : Int} {mo : List (Int × Int)} {t : Tb} (hmo : mget (.int .i64) (.int .i64) c mo 0 = 4) (h1 : t.1.1.length ≤ 100) (h2 : t.1.2.length ≤ 100) (h3 : t.2.length ≤ 100) : ∀ (m i j n : Nat), i + m = t.2.length → m < j → n ≤ i →
  L31_4 k j c a b mo t.1.1 t.1.2 t.2 (n : Int) t.2 (t.2.length : Int) (i : Int) =
   (if 4 ≤ n + manyT c (t.2.drop i) ∨ (takeV t.1).2.2 = false ∨ (t.2.length : Int) ≤ (takeV t.1).2.1.1 then some ((t, (0, 0), false, ()), ()) else some ((((takeV t.1).1, upd t.2 (takeV t.1).2.1.1 (sealT k (freshT c (takeV t.1).2.1))), (takeV t.1).2.1, true, ()), ()))
 | 0, i, j, n, h, hj, hn => by
  obtain ⟨j', rfl⟩ : ∃ j', j = j' + 1 := ⟨j - 1, by omega⟩
  rw [L31_4_s, l31_4, bif_f (by omega), S65_eq hk h1 h2, Option.bind_some, drop_nil (by omega), hmo]
  have hma : manyT c [] = 0 := rfl
  rw [hma, Nat.add_zero]
  simp only
  have e0 : ((t.1.1, t.1.2) : Sl) = t.1 := rfl
  rw [e0]
  by_cases e : 4 ≤ n
  ·rw [bif_t (by omega), if_pos (.inl e)]
  ·rw [bif_f (by omega)]
   cases hok : (takeV t.1).2.2 with
   | false => rw [if_pos (.inr (.inl rfl))]; rfl
   | true =>
    rw [Bool.not_true, cond_false]
    by_cases e2 : (t.2.length : Int) ≤ (takeV t.1).2.1.1
    ·rw [bif_t (by omega), if_pos (.inr (.inr e2))]
    ·have hat := takeV_at t.1
     rw [bif_f (by omega), if_neg (by rintro (q | q | q); exact e q; cases q; exact e2 q)]
     have hfr : S67 k c (takeV t.1).2.1 = some ((freshT c (takeV t.1).2.1, ()), ()) := by
      unfold S67 freshT
      by_cases e3 : c = 1
      ·rw [show (c == 1) = true by rw [e3]; rfl, cond_true, if_pos e3]
      ·rw [show (c == 1) = false by simpa using e3, cond_false, if_neg e3]
     rw [hfr, Option.bind_some, S66_eq hk ⟨by simp [freshT], by simp [freshT], by simp [freshT]⟩, Option.bind_some, ix_ok hat (by omega)]
 | m + 1, i, j, n, h, hj, hn => by
  obtain ⟨j', rfl⟩ : ∃ j', j = j' + 1 := ⟨j - 1, by omega⟩
  have hi : i < t.2.length := by omega
  have ih := L31_4_eq hk (c := c) (a := a) (b := b) hmo h1 h2 h3 m (i + 1) j'
  have hc : manyT c (t.2.getD i th0 :: t.2.drop (i + 1)) = manyT c (t.2.drop (i + 1)) + (if ((t.2.getD i th0).1 == c) = true then 1 else 0) := by unfold manyT; rw [List.countP_cons]
  rw [L31_4_s, l31_4, bif_t (by omega), ix_nat hi, rd_nat, w64_nat (by omega), w64_nat (by omega), drop_cons th0 hi, hc]
  cases e : (t.2.getD i th0).1 == c with
  | true =>
   simp only [cond_true, if_true]
   rw [ih (n + 1) (by omega) (by omega) (by omega), show n + (manyT c (t.2.drop (i + 1)) + 1) = n + 1 + manyT c (t.2.drop (i + 1)) by omega]
  | false =>
   simp only [cond_false, Bool.false_eq_true, if_false, Nat.add_zero]
   exact ih n (by omega) (by omega) (by omega)
theorem S31_eq {k : Nat} (hk : 1000 ≤ k) {t : Tb} {c : Int} (ht : SmB t) (hc : c = 1 ∨ c = 2 ∨ c = 3) : S31 k t c = some (((makeV k t c).1, (makeV k t c).2.1, (makeV k t c).2.2, ()), ()) := by
 unfold S31
 rw [S64_eq hk ht, Option.bind_some]
 obtain ⟨⟨h1, h2, h3⟩, _⟩ := ht
 have hmo : mget (.int .i64) (.int .i64) c (updD (.int .i64) (.int .i64) 3 4 (updD (.int .i64) (.int .i64) 2 4 (updD (.int .i64) (.int .i64) 1 4 ([] : List (Int × Int))))) 0 = 4 := by
  rcases hc with rfl | rfl | rfl <;> rfl
 have := L31_4_eq hk (c := c) (a := 0) (b := 0) hmo h1 h2 h3 t.2.length 0 k 0 (by omega) (by omega) (by omega)
 rw [List.drop_zero, Nat.zero_add] at this
 refine Eq.trans this ?_
 unfold makeV
 split <;> rfl
theorem SmT_0 : SmT th0 := ⟨by simp, by simp, by simp⟩
end Go.Proofs.YtjemccmhbjfnaaaGreat.Ab

/- Handles are had till they are dropped: the law. -/
namespace Go.Proofs.YtjemccmhbjfnaaaGreat.Ab
open Go.RowKit
set_option linter.unusedSimpArgs false
set_option linter.unusedVariables false
theorem lookD_upd2 {tk tv : Ty} (hb : ∀ a b : tk.D, beqD tk a b = true ↔ a = b) (d e : tk.D) (v : tv.D) : ∀ (es : List (tk.D × tv.D)), lookD tk tv e (updD tk tv d v es) = if beqD tk e d = true then some v else lookD tk tv e es
 | [] => by
  simp only [updD, lookD]
  cases beqD tk e d <;> rfl
 | x :: r => by
  simp only [updD]
  cases h : beqD tk d x.1 with
  | true =>
   have := (hb _ _).1 h
   simp only [lookD]
   rw [← this]
   cases beqD tk e d <;> rfl
  | false =>
   simp only [lookD]
   rw [lookD_upd2 hb d e v r]
   cases h2 : beqD tk e x.1 with
   | true =>
    have h3 := (hb _ _).1 h2
    subst h3
    cases h4 : beqD tk x.1 d with
    | true =>
     have h5 := (hb _ _).1 h4
     rw [← h5, (hb _ _).2 rfl] at h
     cases h
    | false => rfl
   | false => rfl
abbrev HT : Ty := .pair (.int .i64) (.int .i64)
theorem beqD_HT (a b : HT.D) : beqD HT a b = true ↔ a = b := by
 show (a.1 == b.1 && a.2 == b.2) = true ↔ a = b
 rw [Bool.and_eq_true, beq_iff_eq, beq_iff_eq]
 exact ⟨fun h => Prod.ext h.1 h.2, fun h => by subst h; exact ⟨rfl, rfl⟩⟩
def hasV (s : Sl) (h : Int × Int) : Bool := decide (0 ≤ h.1) && (decide (h.1 < (min s.1.length s.2.length : Nat)) && (rd s.2 h.1 false && (rd s.1 h.1 0 == h.2)))
theorem L166_3_eq {k : Nat} {s : Sl} (h1 : s.1.length ≤ 100) (h2 : s.2.length ≤ 100) (h : Int × Int) : ∀ (m i j : Nat) (es : List ((Int × Int) × Bool)), i + m = min s.1.length s.2.length → m < j →
  (lookD HT .bool h es = if ∃ n : Nat, n < i ∧ s.2.getD n false = true ∧ h = ((n : Int), s.1.getD n 0) then some true else none) →
  ∃ es', L166_3 k j s.1 s.2 es ((min s.1.length s.2.length : Nat) : Int) (i : Int) = some ((es', ()), ()) ∧ (lookD HT .bool h es' = if ∃ n : Nat, n < min s.1.length s.2.length ∧ s.2.getD n false = true ∧ h = ((n : Int), s.1.getD n 0) then some true else none)
 | 0, i, j, es, hi, hj, he => by
  obtain ⟨j', rfl⟩ : ∃ j', j = j' + 1 := ⟨j - 1, by omega⟩
  have : i = min s.1.length s.2.length := by omega
  subst this
  rw [L166_3_s, l166_3, bif_f (by omega)]
  exact ⟨es, rfl, he⟩
 | m + 1, i, j, es, hi, hj, he => by
  obtain ⟨j', rfl⟩ : ∃ j', j = j' + 1 := ⟨j - 1, by omega⟩
  rw [L166_3_s, l166_3, bif_t (by omega), ix_nat (by omega), rd_nat, w64_nat (by omega)]
  cases e : s.2.getD i false with
  | false =>
   rw [cond_false]
   refine L166_3_eq h1 h2 h m (i + 1) j' es (by omega) (by omega) ?_
   rw [he]
   congr 1
   refine propext ⟨fun ⟨n, q1, q2⟩ => ⟨n, by omega, q2⟩, fun ⟨n, q1, q2, q3⟩ => ?_⟩
   by_cases en : n = i
   ·subst en; rw [e] at q2; cases q2
   ·exact ⟨n, by omega, q2, q3⟩
  | true =>
   rw [cond_true, ix_nat (by omega), rd_nat]
   refine L166_3_eq h1 h2 h m (i + 1) j' _ (by omega) (by omega) ?_
   rw [lookD_upd2 beqD_HT, he]
   by_cases c : beqD HT h ((i : Int), s.1.getD i 0) = true
   ·have c' := (beqD_HT _ _).1 c
    rw [if_pos c, if_pos ⟨i, by omega, e, c'⟩]
   ·rw [if_neg c]
    congr 1
    refine propext ⟨fun ⟨n, q1, q2⟩ => ⟨n, by omega, q2⟩, fun ⟨n, q1, q2, q3⟩ => ?_⟩
    by_cases en : n = i
    ·subst en; exact absurd ((beqD_HT _ _).2 q3) c
    ·exact ⟨n, by omega, q2, q3⟩
theorem S124_eq {k : Nat} (hk : 1000 ≤ k) {s : Sl} {h : Int × Int} (h1 : s.1.length ≤ 100) (h2 : s.2.length ≤ 100) : S124 k s h = some ((hasV s h, ()), ()) := by
 unfold S124 S166 S114
 rw [Option.bind_some, mn_eq]
 simp only
 have hm : min (s.1.length : Int) (s.2.length : Int) = ((min s.1.length s.2.length : Nat) : Int) := by omega
 obtain ⟨es, g1, g2⟩ := L166_3_eq (k := k) h1 h2 h (min s.1.length s.2.length) 0 k [] (by omega) (by omega) (by
  rw [if_neg (by rintro ⟨n, q, _⟩; omega)]; rfl)
 rw [hm, show (0 : Int) = ((0 : Nat) : Int) from rfl, g1, Option.bind_some]
 unfold mget
 rw [g2]
 unfold hasV
 by_cases c : ∃ n : Nat, n < min s.1.length s.2.length ∧ s.2.getD n false = true ∧ h = ((n : Int), s.1.getD n 0)
 ·rw [if_pos c]
  obtain ⟨n, q1, q2, rfl⟩ := c
  simp only
  rw [decide_eq_true (show (0 : Int) ≤ (n : Int) by omega), decide_eq_true (show (n : Int) < ((min s.1.length s.2.length : Nat) : Int) by omega), rd_nat, rd_nat, q2, beq_self_eq_true]; rfl
 ·rw [if_neg c]
  cases e : decide (0 ≤ h.1) with
  | false => rfl
  | true =>
   have e1 := of_decide_eq_true e
   cases f : decide (h.1 < ((min s.1.length s.2.length : Nat) : Int)) with
   | false => rfl
   | true =>
    have f1 := of_decide_eq_true f
    obtain ⟨n, hn⟩ : ∃ n : Nat, h.1 = (n : Int) := ⟨h.1.toNat, by omega⟩
    rw [hn, rd_nat, rd_nat]
    cases g : s.2.getD n false with
    | false => rfl
    | true =>
     cases q : s.1.getD n 0 == h.2 with
     | false => rfl
     | true => exact absurd ⟨n, by omega, g, Prod.ext hn (eq_of_beq q).symm⟩ c
def findV (t : Tb) (h : Int × Int) : Bool := hasV t.1 h && isTh t h.1
theorem S76_eq {k : Nat} (hk : 1000 ≤ k) {t : Tb} {h : Int × Int} (ht : SmB t) : S76 k t h = some (((if findV t h = true then h.1 else 0), findV t h, ()), ()) := by
 unfold S76 findV
 rw [S124_eq hk ht.1.1 ht.1.2.1, Option.bind_some]
 cases hasV t.1 h with
 | false => rfl
 | true =>
  simp only [Bool.not_true, cond_false, Bool.true_and]
  rw [S78_eq, Option.bind_some]
  cases isTh t h.1 <;> rfl
end Go.Proofs.YtjemccmhbjfnaaaGreat.Ab

/- What some calls are told: a closed law, reckoned. -/
namespace Go.Proofs.YtjemccmhbjfnaaaGreat.Ab
open Go.RowKit
set_option linter.unusedSimpArgs false
set_option linter.unusedVariables false
theorem S7_eq {k : Nat} (hk : 20000 ≤ k) : S7 k = some ((true, ()), ()) := by
 obtain ⟨k, rfl⟩ : ∃ m, k = m + 20000 := ⟨k - 20000, by omega⟩
 kernel_rfl
end Go.Proofs.YtjemccmhbjfnaaaGreat.Ab

/- Calls of a kernel without tasks: a thing that is made, that waits, that is freed. -/
namespace Go.Proofs.YtjemccmhbjfnaaaGreat.Ab
open Go.RowKit
set_option linter.unusedSimpArgs false
set_option linter.unusedVariables false
abbrev TkH : Type := Int × Int × Int × List I4 × List I4 × List I4
abbrev McH : Type := Int × PN Int 8 × List (Int × Int × Int) × Bool
abbrev JbH : Type := Int × Int × Int × Int × McH × McH × List Int × Bool
abbrev KnH : Type := Int × Int × List TkH × List (PN Int 5) × Bool × Bool × Bool × List JbH × Tb × List Int × List Bool
abbrev EvH : Type := PN Int 6
abbrev tkH : TkH := (0, 0, 0, [], [], [])
abbrev KT (n ap : Int) (T : Tb) : KnH := (n, ap, [], [], false, false, false, [], T, [], [])
theorem put_none {k : Nat} (hk : 1000 ≤ k) {T : Tb} (hT : SmB T) : S37 k T (-1) th0 = some ((T, ()), ()) := by
 rw [S37_eq hk hT SmT_0]
 rfl
theorem twin_KT {k : Nat} (hk : 1000 ≤ k) (n ap : Int) {T : Tb} (hT : SmB T) : S24 k (KT n ap T) = some ((KT n ap T, ()), ()) := by
 have h1 : S42 k [] = some (([], ()), ()) := by unfold S42; exact clone_eq (by simp)
 have h2 : S43 k [] = some (([], ()), ()) := by unfold S43; exact clone_eq (by simp)
 have h3 : S44 k [] = some (([], ()), ()) := by unfold S44; exact clone_eq (by simp)
 have h4 : S47 k ([], []) (-1) = some ((([], []), ()), ()) := by
  unfold S47 S91 S89 S111
  simp only
  rw [clone_eq (by simp), Option.bind_some, clone_eq (by simp), Option.bind_some]
  rfl
 have h5 : S37 k ((T.1.1, T.1.2), T.2) (-1) (0, (0, 0), (0, 0), ([], []), (0, []), 0) = some ((T, ()), ()) := put_none hk hT
 unfold S24
 simp only
 rw [h1, Option.bind_some, h2, Option.bind_some, h3, Option.bind_some]
 simp only
 obtain ⟨j, hj⟩ : ∃ j, k = j + 1 := ⟨k - 1, by omega⟩
 have e8 : ∀ a b c d e, L24_8 k (j + 1) n ap [] [] false false false [] T.1.1 T.1.2 T.2 [] [] a b c d e 0 0 = some ((KT n ap T, ()), ()) := fun a b c d e => by
  rw [L24_8_s, l24_8, bif_f (by omega), h5, Option.bind_some, h4, Option.bind_some]
 have e3 : L24_3 k (j + 1) n ap [] [] false false false [] T.1.1 T.1.2 T.2 [] [] 0 0 false false false 0 0 = some ((KT n ap T, ()), ()) := by
  rw [L24_3_s, l24_3, bif_f (by omega)]
  have := e8 0 0 false false false
  rw [← hj] at this
  exact this
 rw [← hj] at e3
 exact e3
theorem mine_KT {k : Nat} (hk : 1000 ≤ k) (n ap : Int) {T : Tb} (hT : SmB T) : S23 k (KT n ap T) = some ((KT n ap T, ()), ()) := by
 unfold S23 S33
 rw [twin_KT hk n ap hT, Option.bind_some]
 rfl
theorem mine_KT' {k : Nat} (hk : 1000 ≤ k) (n ap : Int) {T : Tb} (hT : SmB T) : S23 k (n, ap, [], [], false, false, false, [], ((T.1.1, T.1.2), T.2), [], []) = some ((KT n ap T, ()), ()) := mine_KT hk n ap hT
theorem do_make {k : Nat} (hk : 1000 ≤ k) (n ap : Int) {T : Tb} (hT : SmB T) {c : Int} (hc : c = 2 ∨ c = 3) (hm : (makeV k T c).2.2 = true) (hT2 : SmB (makeV k T c).1) {a nn m : Int} {h : Int × Int} {t : TkH} :
  S9 k (KT n ap T) (c + 1, t, h, a, nn, m) = some ((KT n ap (makeV k T c).1, [], (0, (makeV k T c).2.1, 0), ()), ()) := by
 have eM : ∀ O : List (Int × Int), mget (.int .i64) (.int .i64) (c + 1) O 0 = c → ∀ d e f i j o p q r s u v w x y z, j14_3 k n ap [] [] false false false [] T.1.1 T.1.2 T.2 [] [] (c + 1) d e f i j o p q r s u v w x y z O = some ((), (n, ap, [], [], false, false, false, [], (makeV k T c).1.1.1, (makeV k T c).1.1.2, (makeV k T c).1.2, [], [], (c + 1), d, e, f, i, j, o, p, q, r, s, u, v, w, (makeV k T c).2.1.1, (makeV k T c).2.1.2, z, ()), ()) := fun O hO d e f i j o p q r s u v w x y z => by
  unfold j14_3
  rw [hO, show S31 k ((T.1.1, T.1.2), T.2) c = _ from S31_eq hk hT (.inr hc), Option.bind_some]
  simp only
  rw [hm]
  rfl
 rcases hc with rfl | rfl
 ·unfold S9
  simp only [show (((2 : Int) + 1) == 1) = false from rfl, show (((2 : Int) + 1) == 2) = false from rfl, show (((2 : Int) + 1) == 3) = true from rfl, cond_false, cond_true]
  unfold S14
  simp only [show (((2 : Int) + 1) == 2) = false from rfl, cond_false]
  rw [eM _ rfl, Option.bind_some]
  simp only
  rw [mine_KT' hk n ap hT2, Option.bind_some]
 ·unfold S9
  simp only [show (((3 : Int) + 1) == 1) = false from rfl, show (((3 : Int) + 1) == 2) = false from rfl, show (((3 : Int) + 1) == 3) = false from rfl, show (((3 : Int) + 1) == 4) = true from rfl, cond_false, cond_true]
  unfold S14
  simp only [show (((3 : Int) + 1) == 2) = false from rfl, cond_false]
  rw [eM _ rfl, Option.bind_some]
  simp only
  rw [mine_KT' hk n ap hT2, Option.bind_some]
end Go.Proofs.YtjemccmhbjfnaaaGreat.Ab

/- Calls of a kernel without tasks: what is there, and what is not. -/
namespace Go.Proofs.YtjemccmhbjfnaaaGreat.Ab
open Go.RowKit
set_option linter.unusedSimpArgs false
set_option linter.unusedVariables false
theorem cl_w {k : Nat} {xs : List (Int × Int)} (h : xs.length ≤ 900) : S82 k xs = some ((xs, ()), ()) := by
 unfold S82; exact clone_eq (by omega)
theorem thing_is {k : Nat} (hk : 1000 ≤ k) {n ap : Int} {T : Tb} (hT : SmB T) {kd : Int} {B C : Int} (hf : findV T (B, C) = true) (hc : (rd T.2 B th0).1 = kd) {t u v w : Int} {y z A : List I4} {D G H : Int} {I : List EvH} {J K M N : Int} :
  S34 k n ap [] [] false false false [] T.1.1 T.1.2 T.2 [] [] t u v w y z A B C D G H I J K M N kd = some ((B, rd T.2 B th0, true, ()), (n, ap, [], [], false, false, false, [], T.1.1, T.1.2, T.2, [], [], t, u, v, w, y, z, A, B, C, D, G, H, I, J, K, M, N, ()), ()) := by
 have hf' := hf
 unfold findV at hf'
 rw [Bool.and_eq_true] at hf'
 obtain ⟨h0, h1, h2⟩ := isTh_in hf'.2
 unfold S34
 rw [show S76 k ((T.1.1, T.1.2), T.2) (B, C) = _ from S76_eq hk hT, hf, Option.bind_some]
 simp only [if_true, Bool.not_true, cond_false]
 rw [ix_ok h0 h1, show ((rd T.2 B (0, (0, 0), (0, 0), ([], []), (0, []), 0)).1 != kd) = false by rw [bne_eq_false_iff_eq]; exact hc, cond_false, ix_ok h0 h1]
end Go.Proofs.YtjemccmhbjfnaaaGreat.Ab

/- Calls of a kernel without tasks: flags that are awaited, what is freed. -/
namespace Go.Proofs.YtjemccmhbjfnaaaGreat.Ab
open Go.RowKit
set_option linter.unusedSimpArgs false
set_option linter.unusedVariables false
def awaitF (f : Int × List (Int × Int)) (c m : Int) : (Int × List (Int × Int)) × Int × Bool :=
 bif decide (c < 1) then (f, 0, false)
 else bif m == 0 then (f, 0, false)
 else bif iand .u32 f.1 m != 0 then ((iandn .u32 f.1 (iand .u32 f.1 m), f.2), iand .u32 f.1 m, true)
 else bif decide ((f.2.length : Int) ≥ 4) then (f, 0, false)
 else bif f.2.any (fun w => w.1 == c) then (f, 0, false) else ((f.1, f.2 ++ [(c, m)]), 0, true)
theorem S127_eq {k : Nat} (hk : 1000 ≤ k) {s : List (Int × Int)} {c : Int} (h : s.length ≤ 900) : S127 k s c = some ((idxI (fun w : Int × Int => w.1 == c) s, ()), ()) := by
 unfold S127
 refine idx_all (fun j i => L127_2 k j s c (s.length : Int) i) s (0, 0) _ (fun j i hi => ?_) (fun j => ?_) k (by omega)
 ·show L127_2 k (j + 1) s c (s.length : Int) (i : Int) = _
  rw [L127_2_s, l127_2, bif_t (by omega), ix_nat hi, w64_nat (by omega), rd_nat]
  unfold S84
  rfl
 ·show L127_2 k (j + 1) s c (s.length : Int) (s.length : Int) = _
  rw [L127_2_s, l127_2, bif_f (by omega)]
theorem S40_eq {k : Nat} (hk : 1000 ≤ k) {f : Int × List (Int × Int)} (h2 : f.2.length ≤ 100) (c m : Int) : S40 k f c m = some (((awaitF f c m).1, (awaitF f c m).2.1, (awaitF f c m).2.2, ()), ()) := by
 unfold S40 awaitF
 rw [cl_w (by omega), Option.bind_some]
 by_cases hc : c < 1
 ·rw [bif_t hc, bif_t hc]
 ·rw [bif_f hc, bif_f hc]
  cases m == 0 with
  | true => rfl
  | false =>
   rw [cond_false, cond_false]
   cases iand .u32 f.1 m != 0 with
   | true => rfl
   | false =>
    rw [cond_false, cond_false]
    by_cases h4 : (f.2.length : Int) ≥ 4
    ·rw [bif_t h4, bif_t h4]
    ·rw [bif_f h4, bif_f h4]
     unfold S83
     rw [S127_eq hk (by omega)]
     simp only [Option.bind_some, idx_ge]
     cases f.2.any (fun w => w.1 == c) with
     | true => rfl
     | false => rw [cond_false, cond_false, ap_ok (by simp; omega)]
theorem do_await {k : Nat} (hk : 1000 ≤ k) (n ap : Int) {T : Tb} (hT : SmB T) {a nn m : Int} {h : Int × Int} {t : TkH} (hf : findV T h = true) (hc : (rd T.2 h.1 th0).1 = 3) (hx : SmT (rd T.2 h.1 th0)) {x : Th} (hxe : rd T.2 h.1 th0 = x) (hx2 : SmT (x.1, x.2.1, x.2.2.1, x.2.2.2.1, (awaitF x.2.2.2.2.1 a m).1, x.2.2.2.2.2)) (hT2 : SmB (putV k T h.1 (x.1, x.2.1, x.2.2.1, x.2.2.2.1, (awaitF x.2.2.2.2.1 a m).1, x.2.2.2.2.2))) :
  S9 k (KT n ap T) (10, t, h, a, nn, m) = some ((KT n ap (bif !(awaitF x.2.2.2.2.1 a m).2.2 then T else putV k T h.1 (x.1, x.2.1, x.2.2.1, x.2.2.2.1, (awaitF x.2.2.2.2.1 a m).1, x.2.2.2.2.2)), [], ((bif !(awaitF x.2.2.2.2.1 a m).2.2 then 1 else bif (awaitF x.2.2.2.2.1 a m).2.1 == 0 then 16 else 0), (0, 0), (bif !(awaitF x.2.2.2.2.1 a m).2.2 then 0 else IntKind.i64.wrap (awaitF x.2.2.2.2.1 a m).2.1)), ()), ()) := by
 rw [hxe] at hx
 have hp : ∀ g1 g2, S37 k ((T.1.1, T.1.2), T.2) h.1 (x.1, x.2.1, x.2.2.1, g1, g2) = S37 k T h.1 (x.1, x.2.1, x.2.2.1, g1, g2) := fun g1 g2 => rfl
 unfold S9 S20
 simp only [show ((10 : Int) == 1) = false from rfl, show ((10 : Int) == 2) = false from rfl, show ((10 : Int) == 3) = false from rfl, show ((10 : Int) == 4) = false from rfl, show ((10 : Int) == 5) = false from rfl, show ((10 : Int) == 6) = false from rfl, show ((10 : Int) == 7) = false from rfl, show ((10 : Int) == 8) = false from rfl, show ((10 : Int) == 9) = false from rfl, show ((10 : Int) == 10) = true from rfl, cond_false, cond_true]
 rw [thing_is hk hT hf hc, Option.bind_some, hxe]
 simp only [Bool.not_true, cond_false]
 rw [S40_eq hk hx.2.2, Option.bind_some]
 simp only
 cases (awaitF x.2.2.2.2.1 a m).2.2 with
 | false =>
  simp only [Bool.not_false, cond_true, Option.bind_some]
  rw [mine_KT' hk n ap hT, Option.bind_some]
 | true =>
  simp only [Bool.not_true, cond_false]
  cases (awaitF x.2.2.2.2.1 a m).2.1 == 0 with
  | true =>
   simp only [cond_true]
   rw [hp, S37_eq hk hT hx2, Option.bind_some, Option.bind_some]
   simp only
   rw [mine_KT' hk n ap hT2, Option.bind_some]
  | false =>
   simp only [cond_false]
   rw [hp, S37_eq hk hT hx2, Option.bind_some, Option.bind_some]
   simp only
   rw [mine_KT' hk n ap hT2, Option.bind_some]
end Go.Proofs.YtjemccmhbjfnaaaGreat.Ab

/- A thing that was freed is nobody's, who waited for it is told, and one that comes in its place is another one. -/
namespace Go.Proofs.YtjemccmhbjfnaaaGreat.Ab
open Go.RowKit
set_option linter.unusedSimpArgs false
set_option linter.unusedVariables false
def tX (g : Int) (x : Th) : Tb := ((g :: List.replicate 11 0, true :: List.replicate 11 false), x :: List.replicate 11 th0)
def tF (g : Int) : Tb := ((g :: List.replicate 11 0, List.replicate 12 false), List.replicate 12 th0)
theorem SmB_tX (g : Int) {x : Th} (h : SmT x) : SmB (tX g x) := ⟨⟨by simp [tX], by simp [tX], by simp [tX]⟩, fun y hy => by
 simp only [tX, List.mem_cons] at hy
 rcases hy with rfl | hy
 ·exact h
 ·rw [List.eq_of_mem_replicate hy]; exact SmT_0⟩
theorem SmB_tF (g : Int) : SmB (tF g) := ⟨⟨by simp [tF], by simp [tF], by simp [tF]⟩, fun y hy => by
 simp only [tF] at hy
 rw [List.eq_of_mem_replicate hy]; exact SmT_0⟩
noncomputable def thF (k : Nat) (g : Int) (f : Int × List (Int × Int)) : Th := sealT k (3, (0, g), (0, 0), ([], []), f, 0)
theorem find_tX {g g2 : Int} {x : Th} (hx : x.1 ≠ 0) : findV (tX g x) (0, g2) = (g == g2) := by
 unfold findV hasV isTh
 show ((decide ((0 : Int) ≤ 0) && (decide ((0 : Int) < ((min 12 12 : Nat) : Int)) && (true && (g == g2)))) && (decide ((0 : Int) ≤ 0) && (decide ((0 : Int) < 12) && (x.1 != 0)))) = (g == g2)
 rw [show (x.1 != 0) = true from bne_iff_ne.2 hx]
 simp
theorem put_F (k : Nat) (g : Int) (f f2 : Int × List (Int × Int)) (s : Int) : putV k (tX g (thF k g f)) 0 (3, (0, g), (0, 0), ([], []), f2, s) = tX g (thF k g f2) := by
 unfold putV
 rw [if_pos (show isTh (tX g (thF k g f)) 0 = true from rfl)]
 show (_, (putT k (thF k g f) (3, (0, g), (0, 0), ([], []), f2, s)) :: List.replicate 11 th0) = _
 unfold putT
 rw [if_pos (show (thF k g f).2.2.2.2.2 = sumV k (thF k g f) from rfl)]
 rfl
theorem SmT_F (k : Nat) (g : Int) {f : Int × List (Int × Int)} (h1 : f.2.length ≤ 100) (s : Int) : SmT (3, (0, g), (0, 0), ([], []), f, s) := ⟨by simp, by simp, h1⟩
theorem SmT_thF (k : Nat) (g : Int) {f : Int × List (Int × Int)} (h1 : f.2.length ≤ 100) : SmT (thF k g f) := ⟨by simp [thF, sealT], by simp [thF, sealT], h1⟩
theorem flag_await {k : Nat} (hk : 1000 ≤ k) (n ap g : Int) {f : Int × List (Int × Int)} (h2 : f.2.length ≤ 90) {a nn m : Int} {t : TkH} :
  S9 k (KT n ap (tX g (thF k g f))) (10, t, (0, g), a, nn, m) = some ((KT n ap (bif !(awaitF f a m).2.2 then tX g (thF k g f) else tX g (thF k g (awaitF f a m).1)), [], ((bif !(awaitF f a m).2.2 then 1 else bif (awaitF f a m).2.1 == 0 then 16 else 0), (0, 0), (bif !(awaitF f a m).2.2 then 0 else IntKind.i64.wrap (awaitF f a m).2.1)), ()), ()) := by
 have hl : (awaitF f a m).1.2.length ≤ 91 := by
  unfold awaitF
  cases decide (a < 1) with
  | true => simp; omega
  | false =>
   cases m == 0 with
   | true => simp; omega
   | false =>
    cases iand .u32 f.1 m != 0 with
    | true => simp; omega
    | false =>
     cases decide ((f.2.length : Int) ≥ 4) with
     | true => simp; omega
     | false => cases f.2.any (fun w => w.1 == a) <;> simp <;> omega
 have := do_await hk n ap (SmB_tX g (SmT_thF k g (by omega))) (a := a) (nn := nn) (m := m) (h := (0, g)) (t := t) (by rw [find_tX (by show (3 : Int) ≠ 0; decide)]; simp) rfl (SmT_thF k g (by omega)) (x := thF k g f) rfl (SmT_F k g (by show (awaitF f a m).1.2.length ≤ 100; omega) _) (by
  rw [show putV k (tX g (thF k g f)) (0, g).1 ((thF k g f).1, (thF k g f).2.1, (thF k g f).2.2.1, (thF k g f).2.2.2.1, (awaitF (thF k g f).2.2.2.2.1 a m).1, (thF k g f).2.2.2.2.2) = tX g (thF k g (awaitF f a m).1) from put_F k g f _ _]
  exact SmB_tX g (SmT_thF k g (by omega)))
 rw [show putV k (tX g (thF k g f)) (0, g).1 ((thF k g f).1, (thF k g f).2.1, (thF k g f).2.2.1, (thF k g f).2.2.2.1, (awaitF (thF k g f).2.2.2.2.1 a m).1, (thF k g f).2.2.2.2.2) = tX g (thF k g (awaitF f a m).1) from put_F k g f _ _] at this
 exact this
theorem new10 (k : Nat) : S8 k 10 = some ((KT 0 10 (tF 0), true, ()), ()) := rfl
end Go.Proofs.YtjemccmhbjfnaaaGreat.Ab

/- Flags that are raised are told to who waits, or are there for who asks, through calls. -/
namespace Go.Proofs.YtjemccmhbjfnaaaGreat.Ab
open Go.RowKit
set_option linter.unusedSimpArgs false
set_option linter.unusedVariables false
def raiseF (f : Int × List (Int × Int)) (m : Int) : (Int × List (Int × Int)) × List (Int × Int) :=
 match f.2 with
 | [] => ((ior .u32 f.1 m, []), [])
 | w :: _ => bif iand .u32 (ior .u32 f.1 m) w.2 == 0 then ((ior .u32 f.1 m, [w]), []) else ((iandn .u32 (ior .u32 f.1 m) (iand .u32 (ior .u32 f.1 m) w.2), []), [(w.1, iand .u32 (ior .u32 f.1 m) w.2)])
theorem S39_eq {k : Nat} (hk : 1000 ≤ k) {f : Int × List (Int × Int)} (h : f.2.length ≤ 1) (m : Int) : S39 k f m = some (((raiseF f m).1, (raiseF f m).2, ()), ()) := by
 obtain ⟨b, ws⟩ := f
 unfold S39 raiseF
 obtain ⟨j, rfl⟩ : ∃ j, k = j + 2 := ⟨k - 2, by omega⟩
 cases ws with
 | nil =>
  simp only
  rw [L39_3_s, l39_3, bif_f (by simp)]
 | cons w ws =>
  have : ws = [] := by
   have h2 : (w :: ws).length ≤ 1 := h
   simp only [List.length_cons] at h2
   exact List.eq_nil_of_length_eq_zero (by omega)
  subst this
  simp only
  rw [L39_3_s, l39_3, bif_t (by simp), ix_ok (by omega) (by simp), show rd [w] 0 (0, 0) = w from rfl]
  cases iand .u32 (ior .u32 b m) w.2 == 0 with
  | true =>
   rw [cond_true, cond_true, ap_ok (by simp)]
   rw [show IntKind.i64.wrap ((0 : Int) + 1) = 1 from rfl, L39_3_s, l39_3, bif_f (by simp)]
   rfl
  | false =>
   rw [cond_false, cond_false, ap_ok (by simp)]
   rw [show IntKind.i64.wrap ((0 : Int) + 1) = 1 from rfl, L39_3_s, l39_3, bif_f (by simp)]
   rfl
theorem raise_len {f : Int × List (Int × Int)} (h : f.2.length ≤ 1) (m : Int) : (raiseF f m).1.2.length ≤ 1 ∧ (raiseF f m).2.length ≤ 1 := by
 obtain ⟨b, ws⟩ := f
 unfold raiseF
 cases ws with
 | nil => simp
 | cons w ws => simp only; cases iand .u32 (ior .u32 b m) w.2 == 0 <;> simp
theorem do_raise {k : Nat} (hk : 1000 ≤ k) (n ap : Int) {T : Tb} (hT : SmB T) {a nn m : Int} {h : Int × Int} {t : TkH} (hf : findV T h = true) (hc : (rd T.2 h.1 th0).1 = 3) {x : Th} (hxe : rd T.2 h.1 th0 = x) (hw : x.2.2.2.2.1.2.length ≤ 1) (hx2 : SmT (x.1, x.2.1, x.2.2.1, x.2.2.2.1, (raiseF x.2.2.2.2.1 m).1, x.2.2.2.2.2)) (hT2 : SmB (putV k T h.1 (x.1, x.2.1, x.2.2.1, x.2.2.2.1, (raiseF x.2.2.2.2.1 m).1, x.2.2.2.2.2))) :
  S9 k (KT n ap T) (9, t, h, a, nn, m) = some ((KT n ap (putV k T h.1 (x.1, x.2.1, x.2.2.1, x.2.2.2.1, (raiseF x.2.2.2.2.1 m).1, x.2.2.2.2.2)), (raiseF x.2.2.2.2.1 m).2.map (fun w => (n, 12, 0, w.1, IntKind.i64.wrap w.2, 0)), (0, (0, 0), 0), ()), ()) := by
 have hp : S37 k ((T.1.1, T.1.2), T.2) h.1 (x.1, (x.2.1.1, x.2.1.2), (x.2.2.1.1, x.2.2.1.2), (x.2.2.2.1.1, x.2.2.2.1.2), ((raiseF x.2.2.2.2.1 m).1.1, (raiseF x.2.2.2.2.1 m).1.2), x.2.2.2.2.2) = some ((putV k T h.1 (x.1, x.2.1, x.2.2.1, x.2.2.2.1, (raiseF x.2.2.2.2.1 m).1, x.2.2.2.2.2), ()), ()) := S37_eq hk hT hx2
 have hr := S39_eq hk hw m
 have hlen := (raise_len hw m).2
 unfold S9 S19
 simp only [show ((9 : Int) == 1) = false from rfl, show ((9 : Int) == 2) = false from rfl, show ((9 : Int) == 3) = false from rfl, show ((9 : Int) == 4) = false from rfl, show ((9 : Int) == 5) = false from rfl, show ((9 : Int) == 6) = false from rfl, show ((9 : Int) == 7) = false from rfl, show ((9 : Int) == 8) = false from rfl, show ((9 : Int) == 9) = true from rfl, cond_false, cond_true]
 rw [thing_is hk hT hf hc, Option.bind_some, hxe]
 simp only [Bool.not_true, cond_false]
 rw [hr, Option.bind_some]
 simp only
 generalize raiseF x.2.2.2.2.1 m = r at hp hlen hT2 ⊢
 obtain ⟨rf, tl⟩ := r
 simp only at hp hlen hT2 ⊢
 have base : ∀ (j : Nat) (I : List EvH) (i : Int), (tl.length : Int) ≤ i → L19_4 k (j + 1) n ap [] [] false false false [] T.1.1 T.1.2 T.2 [] [] 9 t.1 t.2.1 t.2.2.1 t.2.2.2.1 t.2.2.2.2.1 t.2.2.2.2.2 h.1 h.2 a nn m I 0 0 0 0 h.1 x.1 x.2.1.1 x.2.1.2 x.2.2.1.1 x.2.2.1.2 x.2.2.2.1.1 x.2.2.2.1.2 x.2.2.2.2.1.1 x.2.2.2.2.1.2 x.2.2.2.2.2 rf.1 rf.2 tl (tl.length : Int) i = some ((), (n, ap, [], [], false, false, false, [], (putV k T h.1 (x.1, x.2.1, x.2.2.1, x.2.2.2.1, rf, x.2.2.2.2.2)).1.1, (putV k T h.1 (x.1, x.2.1, x.2.2.1, x.2.2.2.1, rf, x.2.2.2.2.2)).1.2, (putV k T h.1 (x.1, x.2.1, x.2.2.1, x.2.2.2.1, rf, x.2.2.2.2.2)).2, [], [], 9, t.1, t.2.1, t.2.2.1, t.2.2.2.1, t.2.2.2.2.1, t.2.2.2.2.2, h.1, h.2, a, nn, m, I, 0, 0, 0, 0, ()), ()) := fun j I i hi => by
  rw [L19_4_s, l19_4, bif_f (by omega), hp, Option.bind_some]
 have loop : ∀ (j : Nat), L19_4 k (j + 2) n ap [] [] false false false [] T.1.1 T.1.2 T.2 [] [] 9 t.1 t.2.1 t.2.2.1 t.2.2.2.1 t.2.2.2.2.1 t.2.2.2.2.2 h.1 h.2 a nn m [] 0 0 0 0 h.1 x.1 x.2.1.1 x.2.1.2 x.2.2.1.1 x.2.2.1.2 x.2.2.2.1.1 x.2.2.2.1.2 x.2.2.2.2.1.1 x.2.2.2.2.1.2 x.2.2.2.2.2 rf.1 rf.2 tl (tl.length : Int) 0 = some ((), (n, ap, [], [], false, false, false, [], (putV k T h.1 (x.1, x.2.1, x.2.2.1, x.2.2.2.1, rf, x.2.2.2.2.2)).1.1, (putV k T h.1 (x.1, x.2.1, x.2.2.1, x.2.2.2.1, rf, x.2.2.2.2.2)).1.2, (putV k T h.1 (x.1, x.2.1, x.2.2.1, x.2.2.2.1, rf, x.2.2.2.2.2)).2, [], [], 9, t.1, t.2.1, t.2.2.1, t.2.2.2.1, t.2.2.2.2.1, t.2.2.2.2.2, h.1, h.2, a, nn, m, tl.map (fun w => (n, 12, 0, w.1, IntKind.i64.wrap w.2, 0)), 0, 0, 0, 0, ()), ()) := fun j => by
  cases tl with
  | nil => exact base (j + 1) [] 0 (by simp)
  | cons w tl =>
   have : tl = [] := by
    simp only [List.length_cons] at hlen
    exact List.eq_nil_of_length_eq_zero (by omega)
   subst this
   rw [L19_4_s, l19_4, bif_t (by simp), ix_ok (by omega) (by simp)]
   unfold S36
   rw [ap_ok (by simp), Option.bind_some]
   simp only [List.nil_append]
   rw [show IntKind.i64.wrap ((0 : Int) + 1) = 1 from rfl]
   exact base j _ 1 (by simp)
 obtain ⟨j, hj⟩ : ∃ j, k = j + 2 := ⟨k - 2, by omega⟩
 have l2 := loop j
 rw [← hj] at l2
 rw [l2, Option.bind_some]
 simp only
 rw [mine_KT' hk n ap hT2, Option.bind_some]
theorem flag_raise {k : Nat} (hk : 1000 ≤ k) (n ap g : Int) {f : Int × List (Int × Int)} (h2 : f.2.length ≤ 1) {a nn m : Int} {t : TkH} :
  S9 k (KT n ap (tX g (thF k g f))) (9, t, (0, g), a, nn, m) = some ((KT n ap (tX g (thF k g (raiseF f m).1)), (raiseF f m).2.map (fun w => (n, 12, 0, w.1, IntKind.i64.wrap w.2, 0)), (0, (0, 0), 0), ()), ()) := by
 have hl := (raise_len h2 m).1
 have := do_raise hk n ap (SmB_tX g (SmT_thF k g (by omega))) (a := a) (nn := nn) (m := m) (h := (0, g)) (t := t) (by rw [find_tX (by show (3 : Int) ≠ 0; decide)]; simp) rfl (x := thF k g f) rfl h2 (SmT_F k g (by show (raiseF f m).1.2.length ≤ 100; omega) _) (by
  rw [show putV k (tX g (thF k g f)) (0, g).1 ((thF k g f).1, (thF k g f).2.1, (thF k g f).2.2.1, (thF k g f).2.2.2.1, (raiseF (thF k g f).2.2.2.2.1 m).1, (thF k g f).2.2.2.2.2) = tX g (thF k g (raiseF f m).1) from put_F k g f _ _]
  exact SmB_tX g (SmT_thF k g (by omega)))
 rw [show putV k (tX g (thF k g f)) (0, g).1 ((thF k g f).1, (thF k g f).2.1, (thF k g f).2.2.1, (thF k g f).2.2.2.1, (raiseF (thF k g f).2.2.2.2.1 m).1, (thF k g f).2.2.2.2.2) = tX g (thF k g (raiseF f m).1) from put_F k g f _ _] at this
 exact this
theorem iand_zero (x : Int) : iand .u32 x 0 = 0 := by
 unfold iand
 rw [show BitVec.ofInt IntKind.u32.bits 0 = 0#_ from rfl, BitVec.and_zero]
 rfl
def wtS (want : Int) : List (Int × Int) := bif want == 0 then [] else [(1, want)]
theorem wt_len (want : Int) : (wtS want).length ≤ 1 := by unfold wtS; cases want == 0 <;> simp
theorem L5_11_eq {k : Nat} (hk : 1000 ≤ k) {l : List (Int × Int)} (hl : l.length ≤ 40) : ∀ (d i fu : Nat) (bits want : Int), i + d = l.length → d < fu →
  L5_11 k fu l 0 10 [] [] false false false [] (tX 1 (thF k 1 (bits, wtS want))).1.1 (tX 1 (thF k 1 (bits, wtS want))).1.2 (tX 1 (thF k 1 (bits, wtS want))).2 [] [] 0 0 1 0 bits want (i : Int) = some ((true, ()), ())
 | 0, i, fu, bits, want, hi, hf => by
  obtain ⟨f, rfl⟩ : ∃ f, fu = f + 1 := ⟨fu - 1, by omega⟩
  rw [L5_11_s, l5_11, bif_f (by omega)]
 | d + 1, i, fu, bits, want, hi, hf => by
  obtain ⟨f, rfl⟩ : ∃ f, fu = f + 1 := ⟨fu - 1, by omega⟩
  have hwl := wt_len want
  have ih := fun (b2 w2 : Int) => L5_11_eq hk hl d (i + 1) f b2 w2 (by omega) (by omega)
  rw [L5_11_s, l5_11, bif_t (by omega), ix_nat (by omega), ix_nat (by omega), rd_nat]
  generalize IntKind.u32.wrap (l.getD i (0, 0)).2 = m
  have hraise := flag_raise hk 0 10 1 (f := (bits, wtS want)) hwl (a := 0) (nn := 0) (m := m) (t := tkH)
  have hawait := flag_await hk 0 10 1 (f := (bits, wtS want)) (by show (wtS want).length ≤ 90; omega) (a := 1) (nn := 0) (m := m) (t := tkH)
  cases Int.tmod (l.getD i (0, 0)).1 2 == 0 with
  | true =>
   rw [cond_true, show S9 k (0, 10, [], [], false, false, false, [], (((tX 1 (thF k 1 (bits, wtS want))).1.1, (tX 1 (thF k 1 (bits, wtS want))).1.2), (tX 1 (thF k 1 (bits, wtS want))).2), [], []) (9, (0, 0, 0, [], [], []), (0, 1), 0, 0, m) = _ from hraise, Option.bind_some]
   simp only [bne_self_eq_false, cond_false]
   by_cases hw : want = 0
   ·subst hw
    have e : raiseF (bits, wtS 0) m = ((ior .u32 bits m, wtS 0), []) := rfl
    rw [e, iand_zero]
    simp only [List.map_nil, List.length_nil]
    rw [show (((((0 : Nat) : Int)) == 1) == ((0 : Int) != 0)) = true from rfl, show decide ((((0 : Nat) : Int)) > 1) = false from rfl, show ((0 : Int) != 0) = false from rfl]
    simp only [Bool.not_true, cond_false]
    unfold j5_21
    rw [show ((0 : Int) != 0) = false from rfl, cond_false, w64_nat (by omega)]
    exact ih _ 0
   ·have ews : wtS want = [(1, want)] := by unfold wtS; rw [beq_eq_false_iff_ne.2 hw, cond_false]
    cases hg : iand .u32 (ior .u32 bits m) want == 0 with
    | true =>
     have hg0 : iand .u32 (ior .u32 bits m) want = 0 := by simpa using hg
     have e : raiseF (bits, wtS want) m = ((ior .u32 bits m, wtS want), []) := by
      unfold raiseF
      rw [ews]
      simp only
      rw [hg, cond_true]
     rw [e, hg0]
     simp only [List.map_nil, List.length_nil]
     rw [show (((((0 : Nat) : Int)) == 1) == ((0 : Int) != 0)) = true from rfl, show decide ((((0 : Nat) : Int)) > 1) = false from rfl, show ((0 : Int) != 0) = false from rfl]
     simp only [Bool.not_true, cond_false]
     unfold j5_21
     rw [show ((0 : Int) != 0) = false from rfl, cond_false, w64_nat (by omega)]
     exact ih _ want
    | false =>
     have hgn : (iand .u32 (ior .u32 bits m) want != 0) = true := by rw [bne, hg]; rfl
     have e : raiseF (bits, wtS want) m = ((iandn .u32 (ior .u32 bits m) (iand .u32 (ior .u32 bits m) want), wtS 0), [(1, iand .u32 (ior .u32 bits m) want)]) := by
      unfold raiseF
      rw [ews]
      simp only
      rw [hg, cond_false]
      rfl
     rw [e, hgn]
     simp only [List.map_cons, List.map_nil, List.length_cons, List.length_nil]
     rw [show (((((0 + 1 : Nat) : Int)) == 1) == true) = true from rfl, show decide ((((0 + 1 : Nat) : Int)) > 1) = false from rfl]
     simp only [Bool.not_true, cond_false, cond_true]
     rw [ix_ok (by omega) (by simp), show ∀ (x : EvH), rd [x] 0 (prep (α := Int) 6 0) = x from fun x => rfl]
     simp only [bne_self_eq_false, cond_false]
     rw [ix_ok (by omega) (by simp), ix_ok (by omega) (by simp)]
     unfold j5_21
     rw [hgn, cond_true, w64_nat (by omega)]
     exact ih _ 0
  | false =>
   rw [cond_false, show S9 k (0, 10, [], [], false, false, false, [], (((tX 1 (thF k 1 (bits, wtS want))).1.1, (tX 1 (thF k 1 (bits, wtS want))).1.2), (tX 1 (thF k 1 (bits, wtS want))).2), [], []) (10, (0, 0, 0, [], [], []), (0, 1), 1, 0, m) = _ from hawait, Option.bind_some]
   simp only [List.length_nil]
   rw [show ((((0 : Nat) : Int)) != 0) = false from rfl, cond_false]
   cases hm : m == 0 with
   | true =>
    have e : awaitF (bits, wtS want) 1 m = ((bits, wtS want), 0, false) := by
     unfold awaitF
     rw [bif_f (by omega), hm, cond_true]
    rw [e]
    simp only [Bool.not_false, cond_true, bne_self_eq_false, cond_false]
    rw [w64_nat (by omega)]
    exact ih bits want
   | false =>
    rw [cond_false]
    cases hg : iand .u32 bits m == 0 with
    | false =>
     have hgn : (iand .u32 bits m != 0) = true := by rw [bne, hg]; rfl
     have e : awaitF (bits, wtS want) 1 m = ((iandn .u32 bits (iand .u32 bits m), wtS want), iand .u32 bits m, true) := by
      unfold awaitF
      rw [bif_f (by omega), hm, cond_false]
      simp only
      rw [hgn, cond_true]
     rw [e, hgn]
     simp only [Bool.not_true, cond_false, cond_true, hg, bne_self_eq_false]
     rw [w64_nat (by omega)]
     exact ih _ want
    | true =>
     have hgn : (iand .u32 bits m != 0) = false := by rw [bne, hg]; rfl
     by_cases hw : want = 0
     ·subst hw
      have e : awaitF (bits, wtS 0) 1 m = ((bits, wtS m), 0, true) := by
       unfold awaitF
       rw [bif_f (by omega), hm, cond_false]
       simp only
       rw [hgn, cond_false]
       unfold wtS
       rw [hm]
       rfl
      rw [e, hgn]
      simp only [Bool.not_true, cond_false, cond_true, beq_self_eq_true, bne_self_eq_false]
      rw [w64_nat (by omega)]
      exact ih bits m
     ·have ews : wtS want = [(1, want)] := by unfold wtS; rw [beq_eq_false_iff_ne.2 hw, cond_false]
      have e : awaitF (bits, wtS want) 1 m = ((bits, wtS want), 0, false) := by
       unfold awaitF
       rw [bif_f (by omega), hm, cond_false]
       simp only
       rw [hgn, cond_false, ews]
       rfl
      rw [e]
      simp only [Bool.not_false, cond_true]
      rw [show (want != 0) = true from bne_iff_ne.2 hw]
      simp only [cond_true, bne_self_eq_false, cond_false]
      rw [w64_nat (by omega)]
      exact ih bits want
theorem callFlags_pure {l : List (Int × Int)} {k : Nat} (hk : 20000 ≤ k) : S5 k l = some ((true, ()), ()) := by
 unfold S5
 rw [S7_eq hk]
 simp only [Option.bind_some, Bool.not_true, cond_false]
 by_cases h : (l.length : Int) > 40
 ·rw [bif_t h]
 ·have h10 : S9 k (KT 0 10 (tF 0)) (4, tkH, (0, 0), 0, 0, 0) = some ((KT 0 10 (tX 1 (thF k 1 (0, []))), [], (0, (0, 1), 0), ()), ()) := do_make (by omega) 0 10 (SmB_tF 0) (.inr rfl) rfl (SmB_tX 1 (SmT_thF k 1 (by simp)))
  rw [bif_f h, new10, Option.bind_some]
  simp only
  rw [h10, Option.bind_some]
  simp only [Bool.not_true, cond_false, bne_self_eq_false]
  exact L5_11_eq (by omega) (by omega) l.length 0 k 0 0 (by omega) (by omega)
theorem callFlags_law {e : TypeId} (l : List (Int × Int)) (_ : Ty.fine (.sl e (.pair (.int .u8) (.int .u8))) l) : ∃ k, S5 k l = some ((true, ()), ()) := ⟨20000, callFlags_pure (by omega)⟩
end Go.Proofs.YtjemccmhbjfnaaaGreat.Ab
