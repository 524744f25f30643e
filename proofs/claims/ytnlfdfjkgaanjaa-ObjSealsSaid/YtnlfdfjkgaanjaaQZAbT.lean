import Derived.Test.YtnlfdfjkgaanjaaAbPure
import Derived.Test.YtnlfdfjkgaanjaaAbT0
import Derived.Test.YtnlfdfjkgaanjaaAbT1
import Derived.Test.YtnlfdfjkgaanjaaAbOpen
import Derived.KernelRfl
/- The plain law, and what it hangs on. -/
/- Small laws of lists, of loops with a counter, of searches, of arrays as lists. -/
namespace Go.Proofs.Ytnlfdfjkgaanjaa.Ab
open Go.RowKit
set_option linter.unusedSimpArgs false
set_option linter.unusedVariables false
section
variable {σ R α : Type}
theorem getD_in {l : List α} {n : Nat} {z : α} (h : n < l.length) : l.getD n z = l[n] := by
 simp [List.getD_eq_getElem?_getD, List.getElem?_eq_getElem h]
theorem set_get {l : List α} {x y : Nat} {v z : α} : (l.set x v).getD y z = if x = y ∧ y < l.length then v else l.getD y z := by
 simp only [List.getD_eq_getElem?_getD, List.getElem?_set]
 by_cases h : x = y
 ·subst h
  by_cases h2 : x < l.length
  ·simp [h2]
  ·simp [h2]
 ·simp [h]
theorem drop_cons {l : List α} {i : Nat} (z : α) (h : i < l.length) : l.drop i = l.getD i z :: l.drop (i + 1) := by
 rw [List.drop_eq_getElem_cons h, getD_in h]
theorem drop_nil {l : List α} {i : Nat} (h : i = l.length) : l.drop i = [] := List.drop_eq_nil_of_le (by omega)
theorem getD_mem {l : List α} {i : Nat} {z : α} (h : i < l.length) : l.getD i z ∈ l := by rw [getD_in h]; exact List.getElem_mem h
def goF (f : Nat → σ → σ) : Nat → Nat → σ → σ
 | 0, _, s => s
 | m + 1, i, s => goF f m (i + 1) (f i s)
theorem loopF {L : Nat → σ → Int → Option R} {n : Nat} (inv : Nat → σ → Prop) (f : Nat → σ → σ) (fin : σ → Option R)
  (hs : ∀ j i s, i < n → inv i s → L (j + 1) s (i : Int) = L j (f i s) ((i + 1 : Nat) : Int))
  (hi : ∀ i s, i < n → inv i s → inv (i + 1) (f i s))
  (he : ∀ j s, inv n s → L (j + 1) s (n : Int) = fin s) :
  ∀ (m i j : Nat) (s : σ), i + m = n → m < j → inv i s → L j s i = fin (goF f m i s)
 | 0, i, j, s, h, hj, hv => by
  obtain ⟨j', rfl⟩ : ∃ j', j = j' + 1 := ⟨j - 1, by omega⟩
  have : i = n := by omega
  subst this; exact he j' s hv
 | m + 1, i, j, s, h, hj, hv => by
  obtain ⟨j', rfl⟩ : ∃ j', j = j' + 1 := ⟨j - 1, by omega⟩
  rw [hs j' i s (by omega) hv, goF]
  exact loopF inv f fin hs hi he m (i + 1) j' _ (by omega) (by omega) (hi i s (by omega) hv)
theorem goF_inv {inv : Nat → σ → Prop} {f : Nat → σ → σ} {n : Nat} (hi : ∀ i s, i < n → inv i s → inv (i + 1) (f i s)) : ∀ (m i : Nat) (s : σ), i + m = n → inv i s → inv n (goF f m i s)
 | 0, i, s, h, hv => by
  have : i = n := by omega
  subst this; exact hv
 | m + 1, i, s, h, hv => goF_inv hi m (i + 1) _ (by omega) (hi i s (by omega) hv)
def idxI (f : α → Bool) (xs : List α) : Int := match xs.findIdx? f with | some n => (n : Int) | none => -1
theorem idx_gen (L : Nat → Int → Option ((Int × Unit) × Unit)) (xs : List α) (z : α) (f : α → Bool)
  (hs : ∀ (j n : Nat), n < xs.length → L (j + 1) (n : Int) = bif f (xs.getD n z) then some (((n : Int), ()), ()) else L j ((n + 1 : Nat) : Int))
  (he : ∀ j, L (j + 1) (xs.length : Int) = some ((-1, ()), ())) : ∀ (m i j : Nat), i + m = xs.length → m < j →
   L j i = some (((match (xs.drop i).findIdx? f with | some n => ((i + n : Nat) : Int) | none => -1), ()), ())
 | 0, i, j, h, hj => by
  obtain ⟨j', rfl⟩ : ∃ j', j = j' + 1 := ⟨j - 1, by omega⟩
  have : i = xs.length := by omega
  subst this; rw [he, List.drop_length]; rfl
 | m + 1, i, j, h, hj => by
  obtain ⟨j', rfl⟩ : ∃ j', j = j' + 1 := ⟨j - 1, by omega⟩
  have hlt : i < xs.length := by omega
  rw [hs j' i hlt, drop_cons z hlt, List.findIdx?_cons, idx_gen L xs z f hs he m (i + 1) j' (by omega) (by omega)]
  cases f (xs.getD i z) with
  | true => simp
  | false =>
   simp only [cond_false, Bool.false_eq_true, if_false]
   cases (xs.drop (i + 1)).findIdx? f with
   | none => rfl
   | some n => simp only [Option.map_some]; congr 4; omega
theorem idx_all (L : Nat → Int → Option ((Int × Unit) × Unit)) (xs : List α) (z : α) (f : α → Bool)
  (hs : ∀ (j n : Nat), n < xs.length → L (j + 1) (n : Int) = bif f (xs.getD n z) then some (((n : Int), ()), ()) else L j ((n + 1 : Nat) : Int))
  (he : ∀ j, L (j + 1) (xs.length : Int) = some ((-1, ()), ())) (j : Nat) (hj : xs.length < j) : L j 0 = some ((idxI f xs, ()), ()) := by
 have := idx_gen L xs z f hs he xs.length 0 j (by omega) hj
 rw [List.drop_zero] at this
 simpa [idxI] using this
def anyF (f : Nat → Bool) : Nat → Nat → Bool
 | 0, _ => false
 | m + 1, i => f i || anyF f m (i + 1)
theorem anyF_iff (f : Nat → Bool) : ∀ (m i : Nat), anyF f m i = true ↔ ∃ n, i ≤ n ∧ n < i + m ∧ f n = true
 | 0, i => ⟨fun h => by simp [anyF] at h, fun ⟨n, h1, h2, _⟩ => by omega⟩
 | m + 1, i => by
  rw [anyF, Bool.or_eq_true, anyF_iff f m (i + 1)]
  constructor
  ·rintro (h | ⟨n, h1, h2, h3⟩)
   ·exact ⟨i, by omega, by omega, h⟩
   ·exact ⟨n, by omega, by omega, h3⟩
  ·rintro ⟨n, h1, h2, h3⟩
   by_cases e : n = i
   ·subst e; exact .inl h3
   ·exact .inr ⟨n, by omega, by omega, h3⟩
theorem anyF_none (f : Nat → Bool) (m i : Nat) : anyF f m i = false ↔ ∀ n, i ≤ n → n < i + m → f n = false := by
 constructor
 ·intro h n h1 h2
  cases hf : f n with
  | false => rfl
  | true => rw [(anyF_iff f m i).2 ⟨n, h1, h2, hf⟩] at h; cases h
 ·intro h
  cases ha : anyF f m i with
  | false => rfl
  | true => obtain ⟨n, h1, h2, h3⟩ := (anyF_iff f m i).1 ha; rw [h n h1 h2] at h3; cases h3
theorem anyN {L : Nat → Int → Option R} {n : Nat} (f : Nat → Bool) (yes no : Option R)
  (hs : ∀ (j i : Nat), i < n → L (j + 1) (i : Int) = bif f i then yes else L j ((i + 1 : Nat) : Int))
  (he : ∀ j, L (j + 1) (n : Int) = no) : ∀ (m i j : Nat), i + m = n → m < j → L j i = bif anyF f m i then yes else no
 | 0, i, j, h, hj => by
  obtain ⟨j', rfl⟩ : ∃ j', j = j' + 1 := ⟨j - 1, by omega⟩
  have : i = n := by omega
  subst this; rw [he]; rfl
 | m + 1, i, j, h, hj => by
  obtain ⟨j', rfl⟩ : ∃ j', j = j' + 1 := ⟨j - 1, by omega⟩
  rw [hs j' i (by omega), anyF, anyN f yes no hs he m (i + 1) j' (by omega) (by omega)]
  cases f i <;> rfl
end
end Go.Proofs.Ytnlfdfjkgaanjaa.Ab

/- Things and tables: what their functions come to. -/
namespace Go.Proofs.Ytnlfdfjkgaanjaa.Ab
open Go.RowKit
set_option linter.unusedSimpArgs false
set_option linter.unusedVariables false
abbrev Th : Type := Int × (Int × Int) × (Int × Int) × (List Int × List Int) × (Int × List (Int × Int)) × Int
abbrev th0 : Th := (0, (0, 0), (0, 0), ([], []), (0, []), 0)
abbrev Tb : Type := (List Int × List Bool) × List Th
def SmT (x : Th) : Prop := x.2.2.2.1.1.length ≤ 100 ∧ x.2.2.2.1.2.length ≤ 100 ∧ x.2.2.2.2.1.2.length ≤ 100
def SmB (t : Tb) : Prop := (t.1.1.length ≤ 100 ∧ t.1.2.length ≤ 100 ∧ t.2.length ≤ 100) ∧ ∀ x ∈ t.2, SmT x
theorem S53_eq {k : Nat} {x : Th} (h : SmT x) : S53 k x = some ((x, ()), ()) := by
 obtain ⟨h1, h2, h3⟩ := h
 unfold S53
 simp only [S78, S79, S87, S88]
 rw [clone_eq (by omega), Option.bind_some, clone_eq (by omega), Option.bind_some, clone_eq (by omega), Option.bind_some]
theorem S45_eq {k : Nat} (hk : 1000 ≤ k) {t : Tb} (h : SmB t) : S45 k t = some ((t, ()), ()) := by
 obtain ⟨⟨h1, h2, h3⟩, h4⟩ := h
 unfold S45
 simp only [S78, S79, S87, S88]
 rw [clone_eq (by omega), Option.bind_some, clone_eq (by omega), Option.bind_some]
 have := loopF (L := fun j (out : List Th) i => L45_3 k j t.1.1 t.1.2 out t.2 (t.2.length : Int) i) (n := t.2.length) (fun i out => out = t.2.take i)
  (fun i out => out ++ [t.2.getD i th0]) (fun out => some ((((t.1.1, t.1.2), out), ()), ()))
  (fun j i out hi hv => by
   show L45_3 k (j + 1) t.1.1 t.1.2 out t.2 (t.2.length : Int) (i : Int) = _
   have hl : out.length ≤ 100 := by rw [hv, List.length_take]; omega
   rw [L45_3_s, l45_3, bif_t (by omega), ix_nat hi, rd_nat, S53_eq (h4 _ (getD_mem hi)), Option.bind_some, ap_ok (by simp only [List.length_cons, List.length_nil]; omega), w64_nat (by omega)])
  (fun i out hi hv => by rw [hv, List.take_add_one, getD_in hi, List.getElem?_eq_getElem hi]; rfl)
  (fun j out hv => by
   show L45_3 k (j + 1) t.1.1 t.1.2 out t.2 (t.2.length : Int) (t.2.length : Int) = _
   rw [L45_3_s, l45_3, bif_f (by omega)]) t.2.length 0 k [] (by omega) (by omega) (by simp)
 have hg := goF_inv (inv := fun i (out : List Th) => out = t.2.take i) (f := fun i out => out ++ [t.2.getD i th0]) (n := t.2.length) (fun i out hi hv => by rw [hv, List.take_add_one, getD_in hi, List.getElem?_eq_getElem hi]; rfl) t.2.length 0 [] (by omega) (by simp)
 refine Eq.trans this ?_
 rw [hg, List.take_length]
/-! ### seals -/
def sumL (x : Th) : List Int := ([x.1, x.2.1.1, x.2.1.2, x.2.2.1.1, x.2.2.1.2, (x.2.2.2.1.1.length : Int)] ++ x.2.2.2.1.1 ++ [(x.2.2.2.1.2.length : Int)] ++ x.2.2.2.1.2 ++ [IntKind.i64.wrap x.2.2.2.2.1.1]) ++ x.2.2.2.2.1.2.flatMap (fun w => [w.1, IntKind.i64.wrap w.2])
theorem flat_len2 (l : List (Int × Int)) : (l.flatMap (fun w => [w.1, IntKind.i64.wrap w.2])).length = 2 * l.length := by
 induction l with
 | nil => rfl
 | cons x r ih => simp only [List.flatMap_cons, List.length_append, ih, List.length_cons, List.length_nil]; omega
theorem L54_11_eq {k : Nat} {ws : List (Int × Int)} (hw : ws.length ≤ 100) : ∀ (m i j : Nat) (l : List Int), i + m = ws.length → m < j → l.length ≤ 1002 + 2 * i → L54_11 k j l ws (ws.length : Int) (i : Int) = S89 k (l ++ (ws.drop i).flatMap (fun w => [w.1, IntKind.i64.wrap w.2]))
 | 0, i, j, l, h, hj, hl => by
  obtain ⟨j', rfl⟩ : ∃ j', j = j' + 1 := ⟨j - 1, by omega⟩
  rw [L54_11_s, l54_11, bif_f (by omega), drop_nil (by omega), List.flatMap_nil, List.append_nil]
  cases S89 k l <;> rfl
 | m + 1, i, j, l, h, hj, hl => by
  obtain ⟨j', rfl⟩ : ∃ j', j = j' + 1 := ⟨j - 1, by omega⟩
  rw [L54_11_s, l54_11, bif_t (by omega), ix_nat (by omega), rd_nat, ap_ok (by simp only [List.length_cons, List.length_nil]; omega), w64_nat (by omega), drop_cons (0, 0) (show i < ws.length by omega), List.flatMap_cons, ← List.append_assoc]
  exact L54_11_eq hw m (i + 1) j' _ (by omega) (by omega) (by simp only [List.length_append, List.length_cons, List.length_nil]; omega)
theorem L54_5_eq {k : Nat} (hk : 1000 ≤ k) {x1 x2 x3 x4 x5 x8 x10 : Int} {x6 x7 : List Int} {ws : List (Int × Int)} {tw : List Int} (hw : ws.length ≤ 100) (ht : tw.length ≤ 100) : ∀ (m i j : Nat) (l : List Int), i + m = tw.length → m < j → l.length ≤ 500 + i →
  L54_5 k j x1 x2 x3 x4 x5 x6 x7 x8 ws x10 l tw (tw.length : Int) (i : Int) = S89 k (l ++ tw.drop i ++ [IntKind.i64.wrap x8] ++ ws.flatMap (fun w => [w.1, IntKind.i64.wrap w.2]))
 | 0, i, j, l, h, hj, hl => by
  obtain ⟨j', rfl⟩ : ∃ j', j = j' + 1 := ⟨j - 1, by omega⟩
  rw [L54_5_s, l54_5, bif_f (by omega), drop_nil (by omega), List.append_nil, ap_ok (by simp only [List.length_cons, List.length_nil]; omega)]
  have := L54_11_eq (k := k) hw ws.length 0 k (l ++ [IntKind.i64.wrap x8]) (by omega) (by omega) (by simp only [List.length_append, List.length_cons, List.length_nil]; omega)
  rw [List.drop_zero] at this
  exact this
 | m + 1, i, j, l, h, hj, hl => by
  obtain ⟨j', rfl⟩ : ∃ j', j = j' + 1 := ⟨j - 1, by omega⟩
  rw [L54_5_s, l54_5, bif_t (by omega), ix_nat (by omega), rd_nat, ap_ok (by simp only [List.length_cons, List.length_nil]; omega), w64_nat (by omega), L54_5_eq hk hw ht m (i + 1) j' _ (by omega) (by omega) (by simp only [List.length_append, List.length_cons, List.length_nil]; omega), drop_cons 0 (show i < tw.length by omega)]
  simp only [List.append_assoc, List.cons_append, List.nil_append]
theorem S54_list {k : Nat} (hk : 1000 ≤ k) {x : Th} (h : SmT x) : S54 k x = S89 k (sumL x) := by
 obtain ⟨h1, h2, h3⟩ := h
 unfold S54
 rw [ap_ok (by simp only [List.length_cons, List.length_nil]; omega), ap_ok (by simp only [List.length_append, List.length_cons, List.length_nil]; omega)]
 have := L54_5_eq hk (x1 := x.1) (x2 := x.2.1.1) (x3 := x.2.1.2) (x4 := x.2.2.1.1) (x5 := x.2.2.1.2) (x8 := x.2.2.2.2.1.1) (x10 := x.2.2.2.2.2) (x6 := x.2.2.2.1.1) (x7 := x.2.2.2.1.2) h3 h2 x.2.2.2.1.2.length 0 k ([x.1, x.2.1.1, x.2.1.2, x.2.2.1.1, x.2.2.1.2, (x.2.2.2.1.1.length : Int)] ++ x.2.2.2.1.1 ++ [(x.2.2.2.1.2.length : Int)]) (by omega) (by omega) (by simp only [List.length_append, List.length_cons, List.length_nil]; omega)
 rw [List.drop_zero] at this
 exact this
theorem L89_6_some {k : Nat} {g3 : Int → List Int → Int → Int → Option ((Int × Unit) × Unit)} {l : List Int} {n i : Int} : ∀ (m a j : Nat) (h u : Int), a + m = 8 → m < j → ∃ v, L89_6 k g3 j h u (a : Int) l n i = g3 v l n (IntKind.i64.wrap (i + 1))
 | 0, a, j, h, u, ha, hj => by
  obtain ⟨j', rfl⟩ : ∃ j', j = j' + 1 := ⟨j - 1, by omega⟩
  rw [L89_6_s, l89_6, bif_f (by omega)]
  exact ⟨h, rfl⟩
 | m + 1, a, j, h, u, ha, hj => by
  obtain ⟨j', rfl⟩ : ∃ j', j = j' + 1 := ⟨j - 1, by omega⟩
  rw [L89_6_s, l89_6, bif_t (by omega), w64_nat (by omega)]
  exact L89_6_some m (a + 1) j' _ _ (by omega) (by omega)
theorem L89_3_some {k : Nat} (hk : 1000 ≤ k) {l : List Int} (hl : l.length ≤ 100000) : ∀ (m i j : Nat) (h : Int), i + m = l.length → m < j → ∃ v, L89_3 k j h l (l.length : Int) (i : Int) = some ((v, ()), ())
 | 0, i, j, h, ha, hj => by
  obtain ⟨j', rfl⟩ : ∃ j', j = j' + 1 := ⟨j - 1, by omega⟩
  rw [L89_3_s, l89_3, bif_f (by omega)]
  exact ⟨h, rfl⟩
 | m + 1, i, j, h, ha, hj => by
  obtain ⟨j', rfl⟩ : ∃ j', j = j' + 1 := ⟨j - 1, by omega⟩
  rw [L89_3_s, l89_3, bif_t (by omega), ix_nat (by omega)]
  obtain ⟨v, hv⟩ := L89_6_some (k := k) (g3 := fun h t8 t9 t10 => L89_3 k j' h t8 t9 t10) (l := l) (n := (l.length : Int)) (i := (i : Int)) 8 0 k h (IntKind.u64.wrap (rd l (i : Int) 0)) (by omega) (by omega)
  obtain ⟨w, hw⟩ := L89_3_some hk hl m (i + 1) j' v (by omega) (by omega)
  refine ⟨w, Eq.trans hv ?_⟩
  show L89_3 k j' v l (l.length : Int) (IntKind.i64.wrap ((i : Int) + 1)) = _
  rw [w64_nat (by omega)]; exact hw
theorem S89_some {k : Nat} (hk : 1000 ≤ k) {l : List Int} (hl : l.length < k) (hl2 : l.length ≤ 100000) : ∃ v, S89 k l = some ((v, ()), ()) := by
 unfold S89
 exact L89_3_some hk hl2 l.length 0 k _ (by omega) (by omega)
theorem sumL_len {x : Th} (h : SmT x) : (sumL x).length ≤ 500 := by
 obtain ⟨h1, h2, h3⟩ := h
 have := flat_len2 x.2.2.2.2.1.2
 unfold sumL
 simp only [List.length_append, List.length_cons, List.length_nil] at this ⊢
 omega
noncomputable def sumV (k : Nat) (x : Th) : Int := match S89 k (sumL x) with | some q => q.1.1 | none => 0
theorem S54_eq {k : Nat} (hk : 1000 ≤ k) {x : Th} (h : SmT x) : S54 k x = some ((sumV k x, ()), ()) := by
 rw [S54_list hk h]
 have hl := sumL_len h
 obtain ⟨v, hv⟩ := S89_some hk (l := sumL x) (by omega) (by omega)
 unfold sumV; rw [hv]
noncomputable def sealT (k : Nat) (x : Th) : Th := (x.1, x.2.1, x.2.2.1, x.2.2.2.1, x.2.2.2.2.1, sumV k x)
theorem S47_eq {k : Nat} (hk : 1000 ≤ k) {x : Th} (h : SmT x) : S47 k x = some ((sealT k x, ()), ()) := by
 unfold S47; rw [S54_eq hk h]; rfl
theorem sum_seal (k : Nat) (x : Th) : sumV k (sealT k x) = sumV k x := rfl
def isTh (t : Tb) (i : Int) : Bool := decide (0 ≤ i) && (decide (i < (t.2.length : Int)) && (rd t.2 i th0).1 != 0)
theorem S52_eq {k : Nat} {t : Tb} {i : Int} : S52 k t i = some ((isTh t i, ()), ()) := by
 unfold S52 isTh
 by_cases h : 0 ≤ i
 ·rw [bif_t h, decide_eq_true h]
  by_cases h2 : i < (t.2.length : Int)
  ·rw [bif_t h2, decide_eq_true h2, ix_ok h h2]; rfl
  ·rw [bif_f h2, decide_eq_false h2]; rfl
 ·rw [bif_f h, decide_eq_false h]; rfl
end Go.Proofs.Ytnlfdfjkgaanjaa.Ab

/- Tables: what is put, what is turned, what begins anew. -/
namespace Go.Proofs.Ytnlfdfjkgaanjaa.Ab
open Go.RowKit
set_option linter.unusedSimpArgs false
set_option linter.unusedVariables false
noncomputable def putT (k : Nat) (w x : Th) : Th :=
 if w.2.2.2.2.2 = sumV k w then sealT k (w.1, w.2.1, x.2.2) else ((sealT k (w.1, w.2.1, x.2.2)).1, (sealT k (w.1, w.2.1, x.2.2)).2.1, (sealT k (w.1, w.2.1, x.2.2)).2.2.1, (sealT k (w.1, w.2.1, x.2.2)).2.2.2.1, (sealT k (w.1, w.2.1, x.2.2)).2.2.2.2.1, inot .u32 (sealT k (w.1, w.2.1, x.2.2)).2.2.2.2.2)
noncomputable def putV (k : Nat) (t : Tb) (i : Int) (x : Th) : Tb := if isTh t i = true then (t.1, upd t.2 i (putT k (rd t.2 i th0) x)) else t
theorem isTh_in {t : Tb} {i : Int} (h : isTh t i = true) : 0 ≤ i ∧ i < (t.2.length : Int) ∧ (rd t.2 i th0).1 ≠ 0 := by
 unfold isTh at h
 simp only [Bool.and_eq_true, decide_eq_true_eq, bne_iff_ne, ne_eq] at h
 exact ⟨h.1, h.2.1, h.2.2⟩
theorem rd_mem {t : List Th} {i : Int} (h0 : 0 ≤ i) (h1 : i < (t.length : Int)) : rd t i th0 ∈ t := by
 obtain ⟨n, rfl⟩ : ∃ n : Nat, i = (n : Int) := ⟨i.toNat, by omega⟩
 rw [rd_nat]; exact getD_mem (by omega)
theorem S26_eq {k : Nat} (hk : 1000 ≤ k) {t : Tb} {i : Int} {x : Th} (ht : SmB t) (hx : SmT x) : S26 k t i x = some ((putV k t i x, ()), ()) := by
 unfold S26 putV
 rw [S45_eq hk ht, Option.bind_some, S52_eq, Option.bind_some]
 cases h : isTh t i with
 | false => rfl
 | true =>
  obtain ⟨h0, h1, h2⟩ := isTh_in h
  have hw : SmT (rd t.2 i th0) := ht.2 _ (rd_mem h0 h1)
  simp only [Bool.not_true, cond_false, if_true]
  rw [ix_ok h0 h1, S53_eq (x := ((rd t.2 i th0).1, (rd t.2 i th0).2.1, x.2.2)) hx, Option.bind_some]
  simp only
  rw [S47_eq hk (x := ((rd t.2 i th0).1, (rd t.2 i th0).2.1, x.2.2)) hx, Option.bind_some, S54_eq hk hw, Option.bind_some, ix_ok h0 h1, ix_ok h0 h1]
  unfold putT
  by_cases e : (rd t.2 i th0).2.2.2.2.2 = sumV k (rd t.2 i th0)
  ·rw [if_pos e, show ((rd t.2 i th0).2.2.2.2.2 != sumV k (rd t.2 i th0)) = false by simpa using e, cond_false]
  ·rw [if_neg e, show ((rd t.2 i th0).2.2.2.2.2 != sumV k (rd t.2 i th0)) = true by simpa using e, cond_true]
/-! ### who waits -/
def waitsT (x : Th) : List Int := x.2.2.2.1.2 ++ x.2.2.2.2.1.2.map (·.1)
theorem S84_eq {k : Nat} (hk : 1000 ≤ k) {f : Int × List (Int × Int)} (h : f.2.length ≤ 100) : S84 k f = some (((0, []), f.2.map (·.1), ()), ()) := by
 unfold S84
 have := loopF (L := fun j (who : List Int) i => L84_2 k j 0 who f.2 (f.2.length : Int) i) (n := f.2.length) (fun i who => who = (f.2.take i).map (·.1))
  (fun i who => who ++ [(f.2.getD i (0, 0)).1]) (fun who => some ((((0, []), who, ()), ())))
  (fun j i who hi hv => by
   show L84_2 k (j + 1) 0 who f.2 (f.2.length : Int) (i : Int) = _
   have hl : who.length ≤ 100 := by rw [hv, List.length_map, List.length_take]; omega
   rw [L84_2_s, l84_2, bif_t (by omega), ix_nat hi, rd_nat, ap_ok (by simp only [List.length_cons, List.length_nil]; omega), w64_nat (by omega)])
  (fun i who hi hv => by rw [hv, List.take_add_one, getD_in hi, List.getElem?_eq_getElem hi, List.map_append]; rfl)
  (fun j who hv => by
   show L84_2 k (j + 1) 0 who f.2 (f.2.length : Int) (f.2.length : Int) = _
   rw [L84_2_s, l84_2, bif_f (by omega)]) f.2.length 0 k [] (by omega) (by omega) (by simp)
 have hg := goF_inv (inv := fun i (who : List Int) => who = (f.2.take i).map (·.1)) (f := fun i who => who ++ [(f.2.getD i (0, 0)).1]) (n := f.2.length) (fun i who hi hv => by rw [hv, List.take_add_one, getD_in hi, List.getElem?_eq_getElem hi, List.map_append]; rfl) f.2.length 0 [] (by omega) (by simp)
 refine Eq.trans this ?_
 rw [hg, List.take_length]
theorem S83_eq {k : Nat} {b : List Int × List Int} (h : b.2.length ≤ 100) : S83 k b = some ((([], []), b.2, ()), ()) := by
 unfold S83
 simp only [S78, S79, S87, S88]
 rw [clone_eq (by omega)]; rfl
theorem S102_eq {k : Nat} {n : Int} (h0 : 0 ≤ n) (h1 : n ≤ 100000) : S102 k n = some (([], ()), ()) := by
 unfold S102
 rw [bif_f (by omega), w64 (by omega) (by omega)]
 by_cases e : n - 0 > 0
 ·rw [bif_t e]
  unfold az
  rw [if_pos]
  ·dsimp only
   rw [sx_ok (by omega) (by omega) (by omega)]; simp
  ·simp only [Bool.and_eq_true, decide_eq_true_eq, List.length_nil]; omega
 ·rw [bif_f e]
theorem S85_two {k : Nat} (hk : 1000 ≤ k) {a b : List Int} (ha : a.length ≤ 1000) (hb : b.length ≤ 1000) : S85 k [a, b] = some ((a ++ b, ()), ()) := by
 unfold S85
 obtain ⟨k', rfl⟩ : ∃ k', k = k' + 3 := ⟨k - 3, by omega⟩
 have e0 : rd [a, b] 0 [] = a := rfl
 have e1 : rd [a, b] 1 [] = b := rfl
 have w1 : IntKind.i64.wrap (0 + 1) = 1 := rfl
 have w2 : IntKind.i64.wrap (1 + 1) = 2 := rfl
 have hlen : (([a, b] : List (List Int)).length : Int) = 2 := rfl
 rw [hlen, L85_3_s, l85_3, bif_t (by omega), ix_ok (by omega) (by omega), e0, w1, w64 (by omega) (by omega), bif_f (by omega), L85_3_s, l85_3, bif_t (by omega), ix_ok (by omega) (by omega), e1, w2, w64 (by omega) (by omega), bif_f (by omega), L85_3_s, l85_3, bif_f (by omega), S102_eq (by omega) (by omega), Option.bind_some, hlen]
 simp only
 rw [L85_11_s, l85_11, bif_t (by omega), ix_ok (by omega) (by omega), e0, w1, ap_ok (by simp only [List.length_nil]; omega), L85_11_s, l85_11, bif_t (by omega), ix_ok (by omega) (by omega), e1, w2, ap_ok (by simp only [List.nil_append]; omega), L85_11_s, l85_11, bif_f (by omega), List.nil_append]
theorem S50_eq {k : Nat} (hk : 1000 ≤ k) {x : Th} (h : SmT x) : S50 k x = some ((waitsT x, ()), ()) := by
 obtain ⟨h1, h2, h3⟩ := h
 unfold S50 waitsT
 rw [S83_eq h2, Option.bind_some, S84_eq hk h3, Option.bind_some]
 simp only
 rw [S85_two hk (by omega) (by rw [List.length_map]; omega)]; rfl
/-! ### what begins anew -/
noncomputable def trn (k : Nat) (x : Th) : Bool := x.1 != 0 && x.2.2.2.2.2 != sumV k x
noncomputable def frT (k : Nat) (x : Th) : Th := sealT k (x.1, x.2.1, (if x.1 = 1 then x.2.2.1.1 else 0, 0), ([], []), (0, []), 0)
noncomputable def aud (k : Nat) (l : List Th) : Nat → Nat → List Th × List Int × List (List Int) → List Th × List Int × List (List Int)
 | 0, _, s => s
 | m + 1, i, s => aud k l m (i + 1) (if trn k (l.getD i th0) = true then (s.1.set i (frT k (l.getD i th0)), s.2.1 ++ [(i : Int)], s.2.2 ++ [waitsT (l.getD i th0)]) else s)
theorem L28_3_eq {k : Nat} (hk : 1000 ≤ k) {t : Tb} (ht : SmB t) : ∀ (m i j : Nat) (s : List Th × List Int × List (List Int)), i + m = t.2.length → m < j → s.1.length = t.2.length → s.2.1.length ≤ i → s.2.2.length ≤ i →
  L28_3 k j t.1.1 t.1.2 t.2 t.1.1 t.1.2 s.1 s.2.1 s.2.2 t.2 (t.2.length : Int) (i : Int) = some (((t.1, (aud k t.2 m i s).1), (aud k t.2 m i s).2.1, (aud k t.2 m i s).2.2, ()), ())
 | 0, i, j, s, h, hj, h1, h2, h3 => by
  obtain ⟨j', rfl⟩ : ∃ j', j = j' + 1 := ⟨j - 1, by omega⟩
  rw [L28_3_s, l28_3, bif_f (by omega), aud]
 | m + 1, i, j, s, h, hj, h1, h2, h3 => by
  obtain ⟨j', rfl⟩ : ∃ j', j = j' + 1 := ⟨j - 1, by omega⟩
  obtain ⟨⟨hl1, hl2, hl3⟩, hsm⟩ := ht
  have hi : i < t.2.length := by omega
  have hx := hsm _ (getD_mem (z := th0) hi)
  have ih := L28_3_eq hk ⟨⟨hl1, hl2, hl3⟩, hsm⟩ m (i + 1) j'
  have hth : isTh ((t.1.1, t.1.2), t.2) (i : Int) = ((t.2.getD i th0).1 != 0) := by
   unfold isTh; rw [decide_eq_true (show (0 : Int) ≤ (i : Int) by omega), decide_eq_true (show (i : Int) < (t.2.length : Int) by omega), rd_nat]; rfl
  rw [L28_3_s, l28_3, bif_t (by omega), ix_nat hi, S52_eq, Option.bind_some, hth, rd_nat, w64_nat (by omega), aud]
  unfold trn
  cases h0 : (t.2.getD i th0).1 != 0 with
  | false =>
   simp only [Bool.not_false, cond_true, Bool.false_and, Bool.false_eq_true, if_false]
   exact ih s (by omega) (by omega) h1 (by omega) (by omega)
  | true =>
   simp only [Bool.not_true, cond_false, Bool.true_and]
   rw [S54_eq hk hx, Option.bind_some]
   simp only
   by_cases e : (t.2.getD i th0).2.2.2.2.2 = sumV k (t.2.getD i th0)
   ·rw [show ((t.2.getD i th0).2.2.2.2.2 == sumV k (t.2.getD i th0)) = true by simpa using e, cond_true, if_neg (by simpa using e)]
    exact ih s (by omega) (by omega) h1 (by omega) (by omega)
   ·rw [show ((t.2.getD i th0).2.2.2.2.2 == sumV k (t.2.getD i th0)) = false by simpa using e, cond_false, if_pos (by simpa using e)]
    have fin : ∀ y : Th, SmT y → y = (( t.2.getD i th0).1, (t.2.getD i th0).2.1, (if (t.2.getD i th0).1 = 1 then (t.2.getD i th0).2.2.1.1 else 0, 0), ([], []), (0, []), 0) →
      j28_9 k (fun t1 t2 t3 out out1 out2 places who t11 t12 t13 => L28_3 k j' t1 t2 t3 out out1 out2 places who t11 t12 t13) t.1.1 t.1.2 t.2 t.1.1 t.1.2 s.1 s.2.1 s.2.2 (i : Int) (t.2.getD i th0).1 (t.2.getD i th0).2.1.1 (t.2.getD i th0).2.1.2 (t.2.getD i th0).2.2.1.1 (t.2.getD i th0).2.2.1.2 (t.2.getD i th0).2.2.2.1.1 (t.2.getD i th0).2.2.2.1.2 (t.2.getD i th0).2.2.2.2.1.1 (t.2.getD i th0).2.2.2.2.1.2 (t.2.getD i th0).2.2.2.2.2 y.1 y.2.1.1 y.2.1.2 y.2.2.1.1 y.2.2.1.2 y.2.2.2.1.1 y.2.2.2.1.2 y.2.2.2.2.1.1 y.2.2.2.2.1.2 y.2.2.2.2.2 t.2 (t.2.length : Int) (i : Int) =
      some (((t.1, (aud k t.2 m (i + 1) (s.1.set i (frT k (t.2.getD i th0)), s.2.1 ++ [(i : Int)], s.2.2 ++ [waitsT (t.2.getD i th0)])).1), (aud k t.2 m (i + 1) (s.1.set i (frT k (t.2.getD i th0)), s.2.1 ++ [(i : Int)], s.2.2 ++ [waitsT (t.2.getD i th0)])).2.1, (aud k t.2 m (i + 1) (s.1.set i (frT k (t.2.getD i th0)), s.2.1 ++ [(i : Int)], s.2.2 ++ [waitsT (t.2.getD i th0)])).2.2, ()), ()) := fun y hy hye => by
     unfold j28_9
     have e1 : S47 k (y.1, (y.2.1.1, y.2.1.2), (y.2.2.1.1, y.2.2.1.2), (y.2.2.2.1.1, y.2.2.2.1.2), (y.2.2.2.2.1.1, y.2.2.2.2.1.2), y.2.2.2.2.2) = some ((sealT k y, ()), ()) := S47_eq hk hy
     rw [e1, Option.bind_some, ix_nat (by omega), ap_ok (by simp only [List.length_cons, List.length_nil]; omega)]
     have e2 : S50 k ((t.2.getD i th0).1, ((t.2.getD i th0).2.1.1, (t.2.getD i th0).2.1.2), ((t.2.getD i th0).2.2.1.1, (t.2.getD i th0).2.2.1.2), ((t.2.getD i th0).2.2.2.1.1, (t.2.getD i th0).2.2.2.1.2), ((t.2.getD i th0).2.2.2.2.1.1, (t.2.getD i th0).2.2.2.2.1.2), (t.2.getD i th0).2.2.2.2.2) = some ((waitsT (t.2.getD i th0), ()), ()) := S50_eq hk hx
     rw [e2, Option.bind_some, ap_ok (by simp only [List.length_cons, List.length_nil]; omega), w64_nat (by omega), upd_nat]
     have e3 : sealT k y = frT k (t.2.getD i th0) := by rw [hye]; rfl
     simp only
     rw [e3]
     exact ih (s.1.set i (frT k (t.2.getD i th0)), s.2.1 ++ [(i : Int)], s.2.2 ++ [waitsT (t.2.getD i th0)]) (by omega) (by omega) (by simp only [List.length_set]; exact h1) (by simp only [List.length_append, List.length_cons, List.length_nil]; omega) (by simp only [List.length_append, List.length_cons, List.length_nil]; omega)
    unfold S48
    by_cases e1 : (t.2.getD i th0).1 = 1
    ·rw [show ((t.2.getD i th0).1 == 1) = true by rw [e1]; rfl, cond_true, Option.bind_some]
     simp only [cond_true]
     exact fin ((t.2.getD i th0).1, (t.2.getD i th0).2.1, ((t.2.getD i th0).2.2.1.1, 0), ([], []), (0, []), 0) ⟨by simp, by simp, by simp⟩ (by rw [if_pos e1])
    ·rw [show ((t.2.getD i th0).1 == 1) = false by simpa using e1, cond_false, Option.bind_some]
     simp only [cond_false]
     exact fin ((t.2.getD i th0).1, (t.2.getD i th0).2.1, (0, 0), ([], []), (0, []), 0) ⟨by simp, by simp, by simp⟩ (by rw [if_neg e1])
theorem S28_eq {k : Nat} (hk : 1000 ≤ k) {t : Tb} (ht : SmB t) : S28 k t = some (((t.1, (aud k t.2 t.2.length 0 (t.2, [], [])).1), (aud k t.2 t.2.length 0 (t.2, [], [])).2.1, (aud k t.2 t.2.length 0 (t.2, [], [])).2.2, ()), ()) := by
 unfold S28
 rw [S45_eq hk ht, Option.bind_some]
 have := ht.1
 exact L28_3_eq hk ht t.2.length 0 k (t.2, [], []) (by omega) (by omega) rfl (by simp) (by simp)
theorem aud_none {k : Nat} {l : List Th} : ∀ (m i : Nat) (s : List Th × List Int × List (List Int)), (∀ j, i ≤ j → j < i + m → trn k (l.getD j th0) = false) → aud k l m i s = s
 | 0, _, _, _ => rfl
 | m + 1, i, s, h => by
  rw [aud, h i (by omega) (by omega)]
  exact aud_none m (i + 1) s (fun j h1 h2 => h j (by omega) (by omega))
/-! ### the law's own -/
theorem S27_eq {k : Nat} (hk : 1000 ≤ k) {t : Tb} (h : t.2.length ≤ 100) : S27 k t = some ((t, ()), ()) := by
 unfold S27
 have := loopF (L := fun j (out : List Th) i => L27_3 k j t.1.1 t.1.2 t.2 t.1.1 t.1.2 out i) (n := t.2.length) (fun i out => out = t.2.take i)
  (fun i out => out ++ [t.2.getD i th0]) (fun out => some ((((t.1.1, t.1.2), out), ()), ()))
  (fun j i out hi hv => by
   show L27_3 k (j + 1) t.1.1 t.1.2 t.2 t.1.1 t.1.2 out (i : Int) = _
   have hl : out.length ≤ 100 := by rw [hv, List.length_take]; omega
   rw [L27_3_s, l27_3, bif_t (by omega), ix_nat hi, rd_nat, S55, Option.bind_some, ap_ok (by simp only [List.length_cons, List.length_nil]; omega), w64_nat (by omega)])
  (fun i out hi hv => by rw [hv, List.take_add_one, getD_in hi, List.getElem?_eq_getElem hi]; rfl)
  (fun j out hv => by
   show L27_3 k (j + 1) t.1.1 t.1.2 t.2 t.1.1 t.1.2 out (t.2.length : Int) = _
   rw [L27_3_s, l27_3, bif_f (by omega)]) t.2.length 0 k [] (by omega) (by omega) (by simp)
 have hg := goF_inv (inv := fun i (out : List Th) => out = t.2.take i) (f := fun i out => out ++ [t.2.getD i th0]) (n := t.2.length) (fun i out hi hv => by rw [hv, List.take_add_one, getD_in hi, List.getElem?_eq_getElem hi]; rfl) t.2.length 0 [] (by omega) (by simp)
 refine Eq.trans this ?_
 rw [hg, List.take_length]
theorem S31_refl {k : Nat} (hk : 1000 ≤ k) {b : List Int × List Int} (h1 : b.1.length ≤ 100) (h2 : b.2.length ≤ 100) : S31 k b b = some ((true, ()), ()) := by
 unfold S31
 rw [bne_self_eq_false, bne_self_eq_false, cond_false, cond_false]
 have r2 := anyN (L := fun j i => L31_9 k j b.1 b.2 b.1 b.2 i) (n := b.2.length) (fun _ => false) none (some ((true, ()), ())) (fun j i hi => by
  show L31_9 k (j + 1) b.1 b.2 b.1 b.2 (i : Int) = _
  rw [L31_9_s, l31_9, bif_t (by omega), ix_nat hi, ix_nat hi, bne_self_eq_false, cond_false, w64_nat (by omega)]; rfl) (fun j => by
  show L31_9 k (j + 1) b.1 b.2 b.1 b.2 (b.2.length : Int) = _
  rw [L31_9_s, l31_9, bif_f (by omega)]) b.2.length 0 k (by omega) (by omega)
 rw [(anyF_none _ _ _).2 (fun _ _ _ => rfl), cond_false] at r2
 have r1 := anyN (L := fun j i => L31_4 k j b.1 b.2 b.1 b.2 i) (n := b.1.length) (fun _ => false) none (some ((true, ()), ())) (fun j i hi => by
  show L31_4 k (j + 1) b.1 b.2 b.1 b.2 (i : Int) = _
  rw [L31_4_s, l31_4, bif_t (by omega), ix_nat hi, ix_nat hi, bne_self_eq_false, cond_false, w64_nat (by omega)]; rfl) (fun j => by
  show L31_4 k (j + 1) b.1 b.2 b.1 b.2 (b.1.length : Int) = _
  rw [L31_4_s, l31_4, bif_f (by omega)]; exact r2) b.1.length 0 k (by omega) (by omega)
 rw [(anyF_none _ _ _).2 (fun _ _ _ => rfl), cond_false] at r1
 exact r1
theorem beqD_pair (a : Int × Int) {k1 k2 : IntKind} : beqD (.pair (.int k1) (.int k2)) a a = true := by simp [beqD]
theorem S32_refl {k : Nat} (hk : 1000 ≤ k) {f : Int × List (Int × Int)} (h : f.2.length ≤ 100) : S32 k f f = some ((true, ()), ()) := by
 unfold S32 S57
 rw [beq_self_eq_true, cond_true, bne_self_eq_false, cond_false]
 have r1 := anyN (L := fun j i => L57_4 k j f.2 f.2 i) (n := f.2.length) (fun _ => false) none (some ((true, ()), ())) (fun j i hi => by
  show L57_4 k (j + 1) f.2 f.2 (i : Int) = _
  rw [L57_4_s, l57_4, bif_t (by omega), ix_nat hi, ix_nat hi, beqD_pair, Bool.not_true, cond_false, w64_nat (by omega)]; rfl) (fun j => by
  show L57_4 k (j + 1) f.2 f.2 (f.2.length : Int) = _
  rw [L57_4_s, l57_4, bif_f (by omega)]) f.2.length 0 k (by omega) (by omega)
 rw [(anyF_none _ _ _).2 (fun _ _ _ => rfl), cond_false] at r1
 rw [show L57_4 k k f.2 f.2 0 = some ((true, ()), ()) from r1]; rfl
theorem S29_refl {k : Nat} (hk : 1000 ≤ k) {x : Th} (h : SmT x) : S29 k x x = some ((true, ()), ()) := by
 unfold S29
 rw [beq_self_eq_true, beq_self_eq_true, beqD_pair, beqD_pair, cond_true, cond_true, cond_true, cond_true, S31_refl hk h.1 h.2.1, Option.bind_some, cond_true, S32_refl hk h.2.2]; rfl
end Go.Proofs.Ytnlfdfjkgaanjaa.Ab

/- Tables: what is made; what is put is sealed: the law. -/
namespace Go.Proofs.Ytnlfdfjkgaanjaa.Ab
open Go.RowKit
set_option linter.unusedSimpArgs false
set_option linter.unusedVariables false
abbrev Sl : Type := List Int × List Bool
def freeI (s : Sl) : Int := idxI (fun b => b == false) (s.2.take (min s.1.length s.2.length))
def takeV (s : Sl) : Sl × (Int × Int) × Bool :=
 if freeI s < 0 then (s, (0, 0), false)
 else ((s.1.set (freeI s).toNat (IntKind.i64.wrap (s.1.getD (freeI s).toNat 0 + 1)), s.2.set (freeI s).toNat true), (freeI s, IntKind.i64.wrap (s.1.getD (freeI s).toNat 0 + 1)), true)
theorem idxI_range {α : Type} (f : α → Bool) (xs : List α) : idxI f xs = -1 ∨ ∃ n : Nat, n < xs.length ∧ idxI f xs = (n : Int) := by
 unfold idxI
 cases h : xs.findIdx? f with
 | none => exact .inl rfl
 | some n =>
  rw [List.findIdx?_eq_some_iff_getElem] at h
  obtain ⟨hn, _⟩ := h
  exact .inr ⟨n, hn, rfl⟩
theorem S81_eq {k : Nat} (hk : 1000 ≤ k) {s : List Bool} (h : s.length ≤ 900) : S81 k s false = some ((idxI (fun b => b == false) s, ()), ()) := by
 unfold S81
 refine idx_all (fun j i => L81_2 k j s false (s.length : Int) i) s false _ (fun j i hi => ?_) (fun j => ?_) k (by omega)
 ·show L81_2 k (j + 1) s false (s.length : Int) (i : Int) = _
  rw [L81_2_s, l81_2, bif_t (by omega), ix_nat hi, w64_nat (by omega), rd_nat]
  cases s.getD i false <;> rfl
 ·show L81_2 k (j + 1) s false (s.length : Int) (s.length : Int) = _
  rw [L81_2_s, l81_2, bif_f (by omega)]
theorem S46_eq {k : Nat} (hk : 1000 ≤ k) {s : Sl} (h1 : s.1.length ≤ 100) (h2 : s.2.length ≤ 100) : S46 k s = some (((takeV s).1, (takeV s).2.1, (takeV s).2.2, ()), ()) := by
 unfold S46 S80 S82
 simp only [S78, S79, S87, S88]
 rw [clone_eq (by omega), Option.bind_some, clone_eq (by omega), Option.bind_some, Option.bind_some, Option.bind_some, mn_eq]
 simp only
 have hm : min (s.1.length : Int) (s.2.length : Int) = ((min s.1.length s.2.length : Nat) : Int) := by omega
 have hsub : sub s.2 0 ((min s.1.length s.2.length : Nat) : Int) = s.2.take (min s.1.length s.2.length) := by simp [sub]
 rw [hm, sx_ok (by omega) (by omega) (by omega), hsub, S81_eq hk (by rw [List.length_take]; omega), Option.bind_some]
 unfold takeV
 rcases idxI_range (fun b => b == false) (s.2.take (min s.1.length s.2.length)) with e | ⟨n, hn, e⟩
 ·have hf : freeI s = -1 := e
  rw [hf, if_pos (by omega)]
  simp only [e]
  rw [bif_t (by omega)]
 ·have hf : freeI s = (n : Int) := e
  rw [List.length_take] at hn
  rw [hf, if_neg (by omega)]
  simp only [e]
  rw [bif_f (by omega), ix_nat (by omega), ix_nat (by omega), ix_nat (by omega), ix_ok (by omega) (by rw [upd_len]; omega)]
  simp only [rd_nat, upd_nat, Int.toNat_natCast]
  rw [set_get, if_pos ⟨rfl, by omega⟩]
def manyT (c : Int) (l : List Th) : Nat := l.countP (fun x => x.1 == c)
def freshT (c : Int) (h : Int × Int) : Th := (c, h, (if c = 1 then 8 else 0, 0), ([], []), (0, []), 0)
noncomputable def makeV (k : Nat) (t : Tb) (c : Int) : Tb × (Int × Int) × Bool :=
 if 4 ≤ manyT c t.2 ∨ (takeV t.1).2.2 = false ∨ (t.2.length : Int) ≤ (takeV t.1).2.1.1 then (t, (0, 0), false)
 else (((takeV t.1).1, upd t.2 (takeV t.1).2.1.1 (sealT k (freshT c (takeV t.1).2.1))), (takeV t.1).2.1, true)
theorem takeV_at (s : Sl) : 0 ≤ (takeV s).2.1.1 := by
 unfold takeV
 split
 ·simp
 ·rename_i h; simp only; omega
theorem L21_4_eq {k : Nat} (hk : 1000 ≤ k) {c a b : Int} {mo : List (Int × Int)} {t : Tb} (hmo : mget (.int .i64) (.int .i64) c mo 0 = 4) (h1 : t.1.1.length ≤ 100) (h2 : t.1.2.length ≤ 100) (h3 : t.2.length ≤ 100) : ∀ (m i j n : Nat), i + m = t.2.length → m < j → n ≤ i →
  L21_4 k j c a b mo t.1.1 t.1.2 t.2 (n : Int) t.2 (t.2.length : Int) (i : Int) =
   (if 4 ≤ n + manyT c (t.2.drop i) ∨ (takeV t.1).2.2 = false ∨ (t.2.length : Int) ≤ (takeV t.1).2.1.1 then some ((t, (0, 0), false, ()), ()) else some ((((takeV t.1).1, upd t.2 (takeV t.1).2.1.1 (sealT k (freshT c (takeV t.1).2.1))), (takeV t.1).2.1, true, ()), ()))
 | 0, i, j, n, h, hj, hn => by
  obtain ⟨j', rfl⟩ : ∃ j', j = j' + 1 := ⟨j - 1, by omega⟩
  rw [L21_4_s, l21_4, bif_f (by omega), S46_eq hk h1 h2, Option.bind_some, drop_nil (by omega), hmo]
  have hma : manyT c [] = 0 := rfl
  rw [hma, Nat.add_zero]
  simp only
  have e0 : ((t.1.1, t.1.2) : Sl) = t.1 := rfl
  rw [e0]
  by_cases e : 4 ≤ n
  ·rw [bif_t (by omega), if_pos (.inl e)]
  ·rw [bif_f (by omega)]
   cases hok : (takeV t.1).2.2 with
   | false => rw [if_pos (.inr (.inl rfl))]; rfl
   | true =>
    rw [Bool.not_true, cond_false]
    by_cases e2 : (t.2.length : Int) ≤ (takeV t.1).2.1.1
    ·rw [bif_t (by omega), if_pos (.inr (.inr e2))]
    ·have hat := takeV_at t.1
     rw [bif_f (by omega), if_neg (by rintro (q | q | q); exact e q; cases q; exact e2 q)]
     have hfr : S48 k c (takeV t.1).2.1 = some ((freshT c (takeV t.1).2.1, ()), ()) := by
      unfold S48 freshT
      by_cases e3 : c = 1
      ·rw [show (c == 1) = true by rw [e3]; rfl, cond_true, if_pos e3]
      ·rw [show (c == 1) = false by simpa using e3, cond_false, if_neg e3]
     rw [hfr, Option.bind_some, S47_eq hk ⟨by simp [freshT], by simp [freshT], by simp [freshT]⟩, Option.bind_some, ix_ok hat (by omega)]
 | m + 1, i, j, n, h, hj, hn => by
  obtain ⟨j', rfl⟩ : ∃ j', j = j' + 1 := ⟨j - 1, by omega⟩
  have hi : i < t.2.length := by omega
  have ih := L21_4_eq hk (c := c) (a := a) (b := b) hmo h1 h2 h3 m (i + 1) j'
  have hc : manyT c (t.2.getD i th0 :: t.2.drop (i + 1)) = manyT c (t.2.drop (i + 1)) + (if ((t.2.getD i th0).1 == c) = true then 1 else 0) := by unfold manyT; rw [List.countP_cons]
  rw [L21_4_s, l21_4, bif_t (by omega), ix_nat hi, rd_nat, w64_nat (by omega), w64_nat (by omega), drop_cons th0 hi, hc]
  cases e : (t.2.getD i th0).1 == c with
  | true =>
   simp only [cond_true, if_true]
   rw [ih (n + 1) (by omega) (by omega) (by omega), show n + (manyT c (t.2.drop (i + 1)) + 1) = n + 1 + manyT c (t.2.drop (i + 1)) by omega]
  | false =>
   simp only [cond_false, Bool.false_eq_true, if_false, Nat.add_zero]
   exact ih n (by omega) (by omega) (by omega)
theorem S21_eq {k : Nat} (hk : 1000 ≤ k) {t : Tb} {c : Int} (ht : SmB t) (hc : c = 1 ∨ c = 2 ∨ c = 3) : S21 k t c = some (((makeV k t c).1, (makeV k t c).2.1, (makeV k t c).2.2, ()), ()) := by
 unfold S21
 rw [S45_eq hk ht, Option.bind_some]
 obtain ⟨⟨h1, h2, h3⟩, _⟩ := ht
 have hmo : mget (.int .i64) (.int .i64) c (updD (.int .i64) (.int .i64) 3 4 (updD (.int .i64) (.int .i64) 2 4 (updD (.int .i64) (.int .i64) 1 4 ([] : List (Int × Int))))) 0 = 4 := by
  rcases hc with rfl | rfl | rfl <;> rfl
 have := L21_4_eq hk (c := c) (a := 0) (b := 0) hmo h1 h2 h3 t.2.length 0 k 0 (by omega) (by omega) (by omega)
 rw [List.drop_zero, Nat.zero_add] at this
 refine Eq.trans this ?_
 unfold makeV
 split <;> rfl
def newT : Tb := ((List.replicate 12 0, List.replicate 12 false), List.replicate 12 th0)
theorem S20_eq (k : Nat) : S20 k = some ((newT, ()), ()) := rfl
theorem SmT_0 : SmT th0 := ⟨by simp, by simp, by simp⟩
theorem SmB_new : SmB newT := ⟨⟨by simp [newT], by simp [newT], by simp [newT]⟩, fun x hx => by
 rw [List.eq_of_mem_replicate hx]; exact SmT_0⟩
theorem S19_eq : S19 1000 = some ((true, ()), ()) := by kernel_rfl
theorem S56_refl {k : Nat} (hk : 1000 ≤ k) {s : Sl} (h1 : s.1.length ≤ 100) (h2 : s.2.length ≤ 100) : S56 k s s = some ((true, ()), ()) := by
 unfold S56
 rw [bne_self_eq_false, bne_self_eq_false, cond_false, cond_false]
 have r2 := anyN (L := fun j i => L56_9 k j s.1 s.2 s.1 s.2 i) (n := s.2.length) (fun _ => false) none (some ((true, ()), ())) (fun j i hi => by
  show L56_9 k (j + 1) s.1 s.2 s.1 s.2 (i : Int) = _
  rw [L56_9_s, l56_9, bif_t (by omega), ix_nat hi, ix_nat hi, beq_self_eq_true, Bool.not_true, cond_false, w64_nat (by omega)]; rfl) (fun j => by
  show L56_9 k (j + 1) s.1 s.2 s.1 s.2 (s.2.length : Int) = _
  rw [L56_9_s, l56_9, bif_f (by omega)]) s.2.length 0 k (by omega) (by omega)
 rw [(anyF_none _ _ _).2 (fun _ _ _ => rfl), cond_false] at r2
 have r1 := anyN (L := fun j i => L56_4 k j s.1 s.2 s.1 s.2 i) (n := s.1.length) (fun _ => false) none (some ((true, ()), ())) (fun j i hi => by
  show L56_4 k (j + 1) s.1 s.2 s.1 s.2 (i : Int) = _
  rw [L56_4_s, l56_4, bif_t (by omega), ix_nat hi, ix_nat hi, bne_self_eq_false, cond_false, w64_nat (by omega)]; rfl) (fun j => by
  show L56_4 k (j + 1) s.1 s.2 s.1 s.2 (s.1.length : Int) = _
  rw [L56_4_s, l56_4, bif_f (by omega)]; exact r2) s.1.length 0 k (by omega) (by omega)
 rw [(anyF_none _ _ _).2 (fun _ _ _ => rfl), cond_false] at r1
 exact r1
theorem S30_refl {k : Nat} (hk : 1000 ≤ k) {t : Tb} (h : SmB t) : S30 k t t = some ((true, ()), ()) := by
 obtain ⟨⟨h1, h2, h3⟩, h4⟩ := h
 unfold S30
 rw [bne_self_eq_false, cond_false, S56_refl hk h1 h2, Option.bind_some]
 simp only [Bool.not_true, cond_false]
 have r1 := anyN (L := fun j i => L30_4 k j t.1.1 t.1.2 t.2 t.1.1 t.1.2 t.2 i) (n := t.2.length) (fun _ => false) none (some ((true, ()), ())) (fun j i hi => by
  show L30_4 k (j + 1) t.1.1 t.1.2 t.2 t.1.1 t.1.2 t.2 (i : Int) = _
  rw [L30_4_s, l30_4, bif_t (by omega), ix_nat hi, ix_nat hi, rd_nat, S29_refl hk (h4 _ (getD_mem hi)), Option.bind_some, w64_nat (by omega)]; rfl) (fun j => by
  show L30_4 k (j + 1) t.1.1 t.1.2 t.2 t.1.1 t.1.2 t.2 (t.2.length : Int) = _
  rw [L30_4_s, l30_4, bif_f (by omega)]) t.2.length 0 k (by omega) (by omega)
 rw [(anyF_none _ _ _).2 (fun _ _ _ => rfl), cond_false] at r1
 exact r1
theorem objSeals_pure {c : Int} {s : Int × Int} {b : List Int × List Int} {f : Int × List (Int × Int)} (hc : 0 ≤ c ∧ c ≤ 255) : S11 1000 c s b f = some ((true, ()), ()) := by
 unfold S11
 rw [S19_eq]
 simp only [Option.bind_some, Bool.not_true, cond_false]
 by_cases h1 : (b.1.length : Int) > 6
 ·rw [bif_t h1]
 rw [bif_f h1]
 by_cases h2 : (b.2.length : Int) > 6
 ·rw [bif_t h2]
 rw [bif_f h2]
 by_cases h3 : (f.2.length : Int) > 6
 ·rw [bif_t h3]
 rw [bif_f h3, S20_eq, Option.bind_some]
 have q1 := Int.tmod_nonneg 3 hc.1
 have q2 := Int.tmod_lt_of_pos c (show (0 : Int) < 3 by omega)
 rw [w64 (n := Int.tmod c 3) (by omega) (by omega), w64 (n := 1 + Int.tmod c 3) (by omega) (by omega)]
 generalize hd : 1 + Int.tmod c 3 = d
 have hd3 : d = 1 ∨ d = 2 ∨ d = 3 := by omega
 have hk : 1000 ≤ 1000 := by omega
 rw [S21_eq hk SmB_new hd3, Option.bind_some]
 have hmk : makeV 1000 newT d = ((([1, 0, 0, 0, 0, 0, 0, 0, 0, 0, 0, 0], [true, false, false, false, false, false, false, false, false, false, false, false]), sealT 1000 (freshT d (0, 1)) :: List.replicate 11 th0), (0, 1), true) := by
  rcases hd3 with rfl | rfl | rfl <;> rfl
 rw [hmk]
 simp only [Bool.not_true, cond_false]
 have hfr : SmT (freshT d (0, 1)) := ⟨by simp [freshT], by simp [freshT], by simp [freshT]⟩
 have hst : SmT (sealT 1000 (freshT d (0, 1))) := hfr
 have ht1 : SmB (([1, 0, 0, 0, 0, 0, 0, 0, 0, 0, 0, 0], [true, false, false, false, false, false, false, false, false, false, false, false]), sealT 1000 (freshT d (0, 1)) :: List.replicate 11 th0) := ⟨⟨by simp, by simp, by simp⟩, fun x hx => by
  rcases List.mem_cons.1 hx with rfl | hx
  ·exact hst
  ·rw [List.eq_of_mem_replicate hx]; exact SmT_0⟩
 have hx9 : SmT ((9, (7, 0), s, b, f, 5) : Th) := ⟨by simp only; omega, by simp only; omega, by simp only; omega⟩
 rw [S26_eq hk ht1 hx9, Option.bind_some]
 have hput : putV 1000 (([1, 0, 0, 0, 0, 0, 0, 0, 0, 0, 0, 0], [true, false, false, false, false, false, false, false, false, false, false, false]), sealT 1000 (freshT d (0, 1)) :: List.replicate 11 th0) 0 (9, (7, 0), s, b, f, 5) = (([1, 0, 0, 0, 0, 0, 0, 0, 0, 0, 0, 0], [true, false, false, false, false, false, false, false, false, false, false, false]), sealT 1000 (d, (0, 1), s, b, f, 5) :: List.replicate 11 th0) := by
  unfold putV
  have hd0 : d ≠ 0 := by omega
  rw [if_pos (by unfold isTh; simp only [sealT, freshT, rd, upd]; simp [hd0])]
  have e : putT 1000 (sealT 1000 (freshT d (0, 1))) (9, (7, 0), s, b, f, 5) = sealT 1000 (d, (0, 1), s, b, f, 5) := by
   unfold putT
   exact if_pos (show (sealT 1000 (freshT d (0, 1))).2.2.2.2.2 = sumV 1000 (sealT 1000 (freshT d (0, 1))) from rfl)
  show ((([1, 0, 0, 0, 0, 0, 0, 0, 0, 0, 0, 0], [true, false, false, false, false, false, false, false, false, false, false, false]), upd (sealT 1000 (freshT d (0, 1)) :: List.replicate 11 th0) 0 (putT 1000 (sealT 1000 (freshT d (0, 1))) (9, (7, 0), s, b, f, 5))) : Tb) = _
  rw [e]
  rfl
 rw [hput]
 have hy : SmT (sealT 1000 (d, (0, 1), s, b, f, 5)) := hx9
 have ht2 : SmB (([1, 0, 0, 0, 0, 0, 0, 0, 0, 0, 0, 0], [true, false, false, false, false, false, false, false, false, false, false, false]), sealT 1000 (d, (0, 1), s, b, f, 5) :: List.replicate 11 th0) := ⟨⟨by simp, by simp, by simp⟩, fun x hx => by
  rcases List.mem_cons.1 hx with rfl | hx
  ·exact hy
  ·rw [List.eq_of_mem_replicate hx]; exact SmT_0⟩
 have haud : aud 1000 (sealT 1000 (d, (0, 1), s, b, f, 5) :: List.replicate 11 th0) (sealT 1000 (d, (0, 1), s, b, f, 5) :: List.replicate 11 th0).length 0 (sealT 1000 (d, (0, 1), s, b, f, 5) :: List.replicate 11 th0, [], []) = (sealT 1000 (d, (0, 1), s, b, f, 5) :: List.replicate 11 th0, [], []) := by
  refine aud_none _ _ _ (fun j _ hj => ?_)
  cases j with
  | zero =>
   rw [List.getD_cons_zero]
   unfold trn
   rw [sum_seal]
   have : (sealT 1000 (d, (0, 1), s, b, f, 5)).2.2.2.2.2 = sumV 1000 (d, (0, 1), s, b, f, 5) := rfl
   rw [this, bne_self_eq_false, Bool.and_false]
  | succ j =>
   rw [List.getD_cons_succ, List.getD_eq_getElem?_getD, List.getElem?_replicate]
   split <;> rfl
 rw [S28_eq hk ht2, Option.bind_some, haud]
 simp only
 rw [S27_eq hk ht2.1.2.2, Option.bind_some]
 simp only [List.length_nil]
 rw [show (((0 : Nat) : Int) == 0) = true from rfl, cond_true, cond_true, Option.bind_some, S30_refl hk ht2, Option.bind_some]
 simp only [cond_true]
 rw [bif_t (by simp only [List.length_cons]; omega), ix_ok (by omega) (by simp only [List.length_cons]; omega)]
 have hrd : rd (sealT 1000 (d, (0, 1), s, b, f, 5) :: List.replicate 11 th0) 0 (0, (0, 0), (0, 0), ([], []), (0, []), 0) = sealT 1000 (d, (0, 1), s, b, f, 5) := rfl
 rw [hrd]
 have e1 : (sealT 1000 (d, (0, 1), s, b, f, 5)).1 = d := rfl
 have e2 : (sealT 1000 (d, (0, 1), s, b, f, 5)).2.1 = (0, 1) := rfl
 have e3 : (sealT 1000 (d, (0, 1), s, b, f, 5)).2.2.1 = s := rfl
 have e4 : (sealT 1000 (d, (0, 1), s, b, f, 5)).2.2.2.1 = b := rfl
 have e5 : (sealT 1000 (d, (0, 1), s, b, f, 5)).2.2.2.2.1 = f := rfl
 rw [e1, e2, e3, e4, e5, beq_self_eq_true, cond_true, ix_ok (by omega) (by simp only [List.length_cons]; omega), beqD_pair, cond_true, ix_ok (by omega) (by simp only [List.length_cons]; omega), beqD_pair, cond_true, ix_ok (by omega) (by simp only [List.length_cons]; omega), S31_refl hk (by omega) (by omega), Option.bind_some]
 simp only [cond_true]
 rw [ix_ok (by omega) (by simp only [List.length_cons]; omega), S32_refl hk (by omega), Option.bind_some]
theorem wf_u8' {n : Int} (h : (Lit.int .u8 n).wf = true) : 0 ≤ n ∧ n ≤ 255 := by
 simp [Lit.wf, IntKind.min, IntKind.max, IntKind.signed, IntKind.bits] at h
 omega
theorem objSeals_law {e1 e2 e3 : TypeId} (c : Int) (s : Int × Int) (b : List Int × List Int) (f : Int × List (Int × Int)) (hc : Ty.fine (.int .u8) c) (_ : Ty.fine (.pair (.int .i64) (.int .i64)) s) (_ : Ty.fine (.pair (.sl e1 (.int .i64)) (.sl e2 (.int .i64))) b) (_ : Ty.fine (.pair (.int .u32) (.sl e3 (.pair (.int .i64) (.int .u32)))) f) : ∃ k, S11 k c s b f = some ((true, ()), ()) := ⟨1000, objSeals_pure (wf_u8' hc)⟩
end Go.Proofs.Ytnlfdfjkgaanjaa.Ab
