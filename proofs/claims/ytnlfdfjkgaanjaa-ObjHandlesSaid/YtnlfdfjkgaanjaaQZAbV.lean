import Derived.Test.YtnlfdfjkgaanjaaAbPure
import Derived.Test.YtnlfdfjkgaanjaaAbV0
import Derived.Test.YtnlfdfjkgaanjaaAbV1
import Derived.Test.YtnlfdfjkgaanjaaAbOpen
import Derived.KernelRfl
/- The plain law, and what it hangs on. -/
/- Small laws of lists, of loops with a counter, of searches, of arrays as lists. -/
namespace Go.Proofs.Ytnlfdfjkgaanjaa.Ab
open Go.RowKit
set_option linter.unusedSimpArgs false
set_option linter.unusedVariables false
section
variable {σ R α : Type}
theorem getD_in {l : List α} {n : Nat} {z : α} (h : n < l.length) : l.getD n z = l[n] := by
 simp [List.getD_eq_getElem?_getD, List.getElem?_eq_getElem h]
theorem set_get {l : List α} {x y : Nat} {v z : α} : (l.set x v).getD y z = if x = y ∧ y < l.length then v else l.getD y z := by
 simp only [List.getD_eq_getElem?_getD, List.getElem?_set]
 by_cases h : x = y
 ·subst h
  by_cases h2 : x < l.length
  ·simp [h2]
  ·simp [h2]
 ·simp [h]
theorem getD_app_l {u w : List α} {n : Nat} {z : α} (h : n < u.length) : (u ++ w).getD n z = u.getD n z := by
 simp [List.getD_eq_getElem?_getD, List.getElem?_append_left h]
theorem getD_app_r {u w : List α} {n : Nat} {z : α} (h : u.length ≤ n) : (u ++ w).getD n z = w.getD (n - u.length) z := by
 simp [List.getD_eq_getElem?_getD, List.getElem?_append_right h]
theorem drop_cons {l : List α} {i : Nat} (z : α) (h : i < l.length) : l.drop i = l.getD i z :: l.drop (i + 1) := by
 rw [List.drop_eq_getElem_cons h, getD_in h]
theorem drop_nil {l : List α} {i : Nat} (h : i = l.length) : l.drop i = [] := List.drop_eq_nil_of_le (by omega)
theorem getD_mem {l : List α} {i : Nat} {z : α} (h : i < l.length) : l.getD i z ∈ l := by rw [getD_in h]; exact List.getElem_mem h
def goF (f : Nat → σ → σ) : Nat → Nat → σ → σ
 | 0, _, s => s
 | m + 1, i, s => goF f m (i + 1) (f i s)
theorem loopF {L : Nat → σ → Int → Option R} {n : Nat} (inv : Nat → σ → Prop) (f : Nat → σ → σ) (fin : σ → Option R)
  (hs : ∀ j i s, i < n → inv i s → L (j + 1) s (i : Int) = L j (f i s) ((i + 1 : Nat) : Int))
  (hi : ∀ i s, i < n → inv i s → inv (i + 1) (f i s))
  (he : ∀ j s, inv n s → L (j + 1) s (n : Int) = fin s) :
  ∀ (m i j : Nat) (s : σ), i + m = n → m < j → inv i s → L j s i = fin (goF f m i s)
 | 0, i, j, s, h, hj, hv => by
  obtain ⟨j', rfl⟩ : ∃ j', j = j' + 1 := ⟨j - 1, by omega⟩
  have : i = n := by omega
  subst this; exact he j' s hv
 | m + 1, i, j, s, h, hj, hv => by
  obtain ⟨j', rfl⟩ : ∃ j', j = j' + 1 := ⟨j - 1, by omega⟩
  rw [hs j' i s (by omega) hv, goF]
  exact loopF inv f fin hs hi he m (i + 1) j' _ (by omega) (by omega) (hi i s (by omega) hv)
theorem goF_inv {inv : Nat → σ → Prop} {f : Nat → σ → σ} {n : Nat} (hi : ∀ i s, i < n → inv i s → inv (i + 1) (f i s)) : ∀ (m i : Nat) (s : σ), i + m = n → inv i s → inv n (goF f m i s)
 | 0, i, s, h, hv => by
  have : i = n := by omega
  subst this; exact hv
 | m + 1, i, s, h, hv => goF_inv hi m (i + 1) _ (by omega) (hi i s (by omega) hv)
def idxI (f : α → Bool) (xs : List α) : Int := match xs.findIdx? f with | some n => (n : Int) | none => -1
theorem idx_gen (L : Nat → Int → Option ((Int × Unit) × Unit)) (xs : List α) (z : α) (f : α → Bool)
  (hs : ∀ (j n : Nat), n < xs.length → L (j + 1) (n : Int) = bif f (xs.getD n z) then some (((n : Int), ()), ()) else L j ((n + 1 : Nat) : Int))
  (he : ∀ j, L (j + 1) (xs.length : Int) = some ((-1, ()), ())) : ∀ (m i j : Nat), i + m = xs.length → m < j →
   L j i = some (((match (xs.drop i).findIdx? f with | some n => ((i + n : Nat) : Int) | none => -1), ()), ())
 | 0, i, j, h, hj => by
  obtain ⟨j', rfl⟩ : ∃ j', j = j' + 1 := ⟨j - 1, by omega⟩
  have : i = xs.length := by omega
  subst this; rw [he, List.drop_length]; rfl
 | m + 1, i, j, h, hj => by
  obtain ⟨j', rfl⟩ : ∃ j', j = j' + 1 := ⟨j - 1, by omega⟩
  have hlt : i < xs.length := by omega
  rw [hs j' i hlt, drop_cons z hlt, List.findIdx?_cons, idx_gen L xs z f hs he m (i + 1) j' (by omega) (by omega)]
  cases f (xs.getD i z) with
  | true => simp
  | false =>
   simp only [cond_false, Bool.false_eq_true, if_false]
   cases (xs.drop (i + 1)).findIdx? f with
   | none => rfl
   | some n => simp only [Option.map_some]; congr 4; omega
theorem idx_all (L : Nat → Int → Option ((Int × Unit) × Unit)) (xs : List α) (z : α) (f : α → Bool)
  (hs : ∀ (j n : Nat), n < xs.length → L (j + 1) (n : Int) = bif f (xs.getD n z) then some (((n : Int), ()), ()) else L j ((n + 1 : Nat) : Int))
  (he : ∀ j, L (j + 1) (xs.length : Int) = some ((-1, ()), ())) (j : Nat) (hj : xs.length < j) : L j 0 = some ((idxI f xs, ()), ()) := by
 have := idx_gen L xs z f hs he xs.length 0 j (by omega) hj
 rw [List.drop_zero] at this
 simpa [idxI] using this
def anyF (f : Nat → Bool) : Nat → Nat → Bool
 | 0, _ => false
 | m + 1, i => f i || anyF f m (i + 1)
theorem anyF_iff (f : Nat → Bool) : ∀ (m i : Nat), anyF f m i = true ↔ ∃ n, i ≤ n ∧ n < i + m ∧ f n = true
 | 0, i => ⟨fun h => by simp [anyF] at h, fun ⟨n, h1, h2, _⟩ => by omega⟩
 | m + 1, i => by
  rw [anyF, Bool.or_eq_true, anyF_iff f m (i + 1)]
  constructor
  ·rintro (h | ⟨n, h1, h2, h3⟩)
   ·exact ⟨i, by omega, by omega, h⟩
   ·exact ⟨n, by omega, by omega, h3⟩
  ·rintro ⟨n, h1, h2, h3⟩
   by_cases e : n = i
   ·subst e; exact .inl h3
   ·exact .inr ⟨n, by omega, by omega, h3⟩
theorem anyF_none (f : Nat → Bool) (m i : Nat) : anyF f m i = false ↔ ∀ n, i ≤ n → n < i + m → f n = false := by
 constructor
 ·intro h n h1 h2
  cases hf : f n with
  | false => rfl
  | true => rw [(anyF_iff f m i).2 ⟨n, h1, h2, hf⟩] at h; cases h
 ·intro h
  cases ha : anyF f m i with
  | false => rfl
  | true => obtain ⟨n, h1, h2, h3⟩ := (anyF_iff f m i).1 ha; rw [h n h1 h2] at h3; cases h3
theorem anyN {L : Nat → Int → Option R} {n : Nat} (f : Nat → Bool) (yes no : Option R)
  (hs : ∀ (j i : Nat), i < n → L (j + 1) (i : Int) = bif f i then yes else L j ((i + 1 : Nat) : Int))
  (he : ∀ j, L (j + 1) (n : Int) = no) : ∀ (m i j : Nat), i + m = n → m < j → L j i = bif anyF f m i then yes else no
 | 0, i, j, h, hj => by
  obtain ⟨j', rfl⟩ : ∃ j', j = j' + 1 := ⟨j - 1, by omega⟩
  have : i = n := by omega
  subst this; rw [he]; rfl
 | m + 1, i, j, h, hj => by
  obtain ⟨j', rfl⟩ : ∃ j', j = j' + 1 := ⟨j - 1, by omega⟩
  rw [hs j' i (by omega), anyF, anyN f yes no hs he m (i + 1) j' (by omega) (by omega)]
  cases f i <;> rfl
end
end Go.Proofs.Ytnlfdfjkgaanjaa.Ab

/- Things and tables: what their functions come to. -/
namespace Go.Proofs.Ytnlfdfjkgaanjaa.Ab
open Go.RowKit
set_option linter.unusedSimpArgs false
set_option linter.unusedVariables false
abbrev Th : Type := Int × (Int × Int) × (Int × Int) × (List Int × List Int) × (Int × List (Int × Int)) × Int
abbrev th0 : Th := (0, (0, 0), (0, 0), ([], []), (0, []), 0)
abbrev Tb : Type := (List Int × List Bool) × List Th
def SmT (x : Th) : Prop := x.2.2.2.1.1.length ≤ 100 ∧ x.2.2.2.1.2.length ≤ 100 ∧ x.2.2.2.2.1.2.length ≤ 100
def SmB (t : Tb) : Prop := (t.1.1.length ≤ 100 ∧ t.1.2.length ≤ 100 ∧ t.2.length ≤ 100) ∧ ∀ x ∈ t.2, SmT x
theorem S53_eq {k : Nat} {x : Th} (h : SmT x) : S53 k x = some ((x, ()), ()) := by
 obtain ⟨h1, h2, h3⟩ := h
 unfold S53
 simp only [S78, S79, S87, S88]
 rw [clone_eq (by omega), Option.bind_some, clone_eq (by omega), Option.bind_some, clone_eq (by omega), Option.bind_some]
theorem S45_eq {k : Nat} (hk : 1000 ≤ k) {t : Tb} (h : SmB t) : S45 k t = some ((t, ()), ()) := by
 obtain ⟨⟨h1, h2, h3⟩, h4⟩ := h
 unfold S45
 simp only [S78, S79, S87, S88]
 rw [clone_eq (by omega), Option.bind_some, clone_eq (by omega), Option.bind_some]
 have := loopF (L := fun j (out : List Th) i => L45_3 k j t.1.1 t.1.2 out t.2 (t.2.length : Int) i) (n := t.2.length) (fun i out => out = t.2.take i)
  (fun i out => out ++ [t.2.getD i th0]) (fun out => some ((((t.1.1, t.1.2), out), ()), ()))
  (fun j i out hi hv => by
   show L45_3 k (j + 1) t.1.1 t.1.2 out t.2 (t.2.length : Int) (i : Int) = _
   have hl : out.length ≤ 100 := by rw [hv, List.length_take]; omega
   rw [L45_3_s, l45_3, bif_t (by omega), ix_nat hi, rd_nat, S53_eq (h4 _ (getD_mem hi)), Option.bind_some, ap_ok (by simp only [List.length_cons, List.length_nil]; omega), w64_nat (by omega)])
  (fun i out hi hv => by rw [hv, List.take_add_one, getD_in hi, List.getElem?_eq_getElem hi]; rfl)
  (fun j out hv => by
   show L45_3 k (j + 1) t.1.1 t.1.2 out t.2 (t.2.length : Int) (t.2.length : Int) = _
   rw [L45_3_s, l45_3, bif_f (by omega)]) t.2.length 0 k [] (by omega) (by omega) (by simp)
 have hg := goF_inv (inv := fun i (out : List Th) => out = t.2.take i) (f := fun i out => out ++ [t.2.getD i th0]) (n := t.2.length) (fun i out hi hv => by rw [hv, List.take_add_one, getD_in hi, List.getElem?_eq_getElem hi]; rfl) t.2.length 0 [] (by omega) (by simp)
 refine Eq.trans this ?_
 rw [hg, List.take_length]
/-! ### seals -/
def sumL (x : Th) : List Int := ([x.1, x.2.1.1, x.2.1.2, x.2.2.1.1, x.2.2.1.2, (x.2.2.2.1.1.length : Int)] ++ x.2.2.2.1.1 ++ [(x.2.2.2.1.2.length : Int)] ++ x.2.2.2.1.2 ++ [IntKind.i64.wrap x.2.2.2.2.1.1]) ++ x.2.2.2.2.1.2.flatMap (fun w => [w.1, IntKind.i64.wrap w.2])
theorem flat_len2 (l : List (Int × Int)) : (l.flatMap (fun w => [w.1, IntKind.i64.wrap w.2])).length = 2 * l.length := by
 induction l with
 | nil => rfl
 | cons x r ih => simp only [List.flatMap_cons, List.length_append, ih, List.length_cons, List.length_nil]; omega
theorem L54_11_eq {k : Nat} {ws : List (Int × Int)} (hw : ws.length ≤ 100) : ∀ (m i j : Nat) (l : List Int), i + m = ws.length → m < j → l.length ≤ 1002 + 2 * i → L54_11 k j l ws (ws.length : Int) (i : Int) = S89 k (l ++ (ws.drop i).flatMap (fun w => [w.1, IntKind.i64.wrap w.2]))
 | 0, i, j, l, h, hj, hl => by
  obtain ⟨j', rfl⟩ : ∃ j', j = j' + 1 := ⟨j - 1, by omega⟩
  rw [L54_11_s, l54_11, bif_f (by omega), drop_nil (by omega), List.flatMap_nil, List.append_nil]
  cases S89 k l <;> rfl
 | m + 1, i, j, l, h, hj, hl => by
  obtain ⟨j', rfl⟩ : ∃ j', j = j' + 1 := ⟨j - 1, by omega⟩
  rw [L54_11_s, l54_11, bif_t (by omega), ix_nat (by omega), rd_nat, ap_ok (by simp only [List.length_cons, List.length_nil]; omega), w64_nat (by omega), drop_cons (0, 0) (show i < ws.length by omega), List.flatMap_cons, ← List.append_assoc]
  exact L54_11_eq hw m (i + 1) j' _ (by omega) (by omega) (by simp only [List.length_append, List.length_cons, List.length_nil]; omega)
theorem L54_5_eq {k : Nat} (hk : 1000 ≤ k) {x1 x2 x3 x4 x5 x8 x10 : Int} {x6 x7 : List Int} {ws : List (Int × Int)} {tw : List Int} (hw : ws.length ≤ 100) (ht : tw.length ≤ 100) : ∀ (m i j : Nat) (l : List Int), i + m = tw.length → m < j → l.length ≤ 500 + i →
  L54_5 k j x1 x2 x3 x4 x5 x6 x7 x8 ws x10 l tw (tw.length : Int) (i : Int) = S89 k (l ++ tw.drop i ++ [IntKind.i64.wrap x8] ++ ws.flatMap (fun w => [w.1, IntKind.i64.wrap w.2]))
 | 0, i, j, l, h, hj, hl => by
  obtain ⟨j', rfl⟩ : ∃ j', j = j' + 1 := ⟨j - 1, by omega⟩
  rw [L54_5_s, l54_5, bif_f (by omega), drop_nil (by omega), List.append_nil, ap_ok (by simp only [List.length_cons, List.length_nil]; omega)]
  have := L54_11_eq (k := k) hw ws.length 0 k (l ++ [IntKind.i64.wrap x8]) (by omega) (by omega) (by simp only [List.length_append, List.length_cons, List.length_nil]; omega)
  rw [List.drop_zero] at this
  exact this
 | m + 1, i, j, l, h, hj, hl => by
  obtain ⟨j', rfl⟩ : ∃ j', j = j' + 1 := ⟨j - 1, by omega⟩
  rw [L54_5_s, l54_5, bif_t (by omega), ix_nat (by omega), rd_nat, ap_ok (by simp only [List.length_cons, List.length_nil]; omega), w64_nat (by omega), L54_5_eq hk hw ht m (i + 1) j' _ (by omega) (by omega) (by simp only [List.length_append, List.length_cons, List.length_nil]; omega), drop_cons 0 (show i < tw.length by omega)]
  simp only [List.append_assoc, List.cons_append, List.nil_append]
theorem S54_list {k : Nat} (hk : 1000 ≤ k) {x : Th} (h : SmT x) : S54 k x = S89 k (sumL x) := by
 obtain ⟨h1, h2, h3⟩ := h
 unfold S54
 rw [ap_ok (by simp only [List.length_cons, List.length_nil]; omega), ap_ok (by simp only [List.length_append, List.length_cons, List.length_nil]; omega)]
 have := L54_5_eq hk (x1 := x.1) (x2 := x.2.1.1) (x3 := x.2.1.2) (x4 := x.2.2.1.1) (x5 := x.2.2.1.2) (x8 := x.2.2.2.2.1.1) (x10 := x.2.2.2.2.2) (x6 := x.2.2.2.1.1) (x7 := x.2.2.2.1.2) h3 h2 x.2.2.2.1.2.length 0 k ([x.1, x.2.1.1, x.2.1.2, x.2.2.1.1, x.2.2.1.2, (x.2.2.2.1.1.length : Int)] ++ x.2.2.2.1.1 ++ [(x.2.2.2.1.2.length : Int)]) (by omega) (by omega) (by simp only [List.length_append, List.length_cons, List.length_nil]; omega)
 rw [List.drop_zero] at this
 exact this
theorem L89_6_some {k : Nat} {g3 : Int → List Int → Int → Int → Option ((Int × Unit) × Unit)} {l : List Int} {n i : Int} : ∀ (m a j : Nat) (h u : Int), a + m = 8 → m < j → ∃ v, L89_6 k g3 j h u (a : Int) l n i = g3 v l n (IntKind.i64.wrap (i + 1))
 | 0, a, j, h, u, ha, hj => by
  obtain ⟨j', rfl⟩ : ∃ j', j = j' + 1 := ⟨j - 1, by omega⟩
  rw [L89_6_s, l89_6, bif_f (by omega)]
  exact ⟨h, rfl⟩
 | m + 1, a, j, h, u, ha, hj => by
  obtain ⟨j', rfl⟩ : ∃ j', j = j' + 1 := ⟨j - 1, by omega⟩
  rw [L89_6_s, l89_6, bif_t (by omega), w64_nat (by omega)]
  exact L89_6_some m (a + 1) j' _ _ (by omega) (by omega)
theorem L89_3_some {k : Nat} (hk : 1000 ≤ k) {l : List Int} (hl : l.length ≤ 100000) : ∀ (m i j : Nat) (h : Int), i + m = l.length → m < j → ∃ v, L89_3 k j h l (l.length : Int) (i : Int) = some ((v, ()), ())
 | 0, i, j, h, ha, hj => by
  obtain ⟨j', rfl⟩ : ∃ j', j = j' + 1 := ⟨j - 1, by omega⟩
  rw [L89_3_s, l89_3, bif_f (by omega)]
  exact ⟨h, rfl⟩
 | m + 1, i, j, h, ha, hj => by
  obtain ⟨j', rfl⟩ : ∃ j', j = j' + 1 := ⟨j - 1, by omega⟩
  rw [L89_3_s, l89_3, bif_t (by omega), ix_nat (by omega)]
  obtain ⟨v, hv⟩ := L89_6_some (k := k) (g3 := fun h t8 t9 t10 => L89_3 k j' h t8 t9 t10) (l := l) (n := (l.length : Int)) (i := (i : Int)) 8 0 k h (IntKind.u64.wrap (rd l (i : Int) 0)) (by omega) (by omega)
  obtain ⟨w, hw⟩ := L89_3_some hk hl m (i + 1) j' v (by omega) (by omega)
  refine ⟨w, Eq.trans hv ?_⟩
  show L89_3 k j' v l (l.length : Int) (IntKind.i64.wrap ((i : Int) + 1)) = _
  rw [w64_nat (by omega)]; exact hw
theorem S89_some {k : Nat} (hk : 1000 ≤ k) {l : List Int} (hl : l.length < k) (hl2 : l.length ≤ 100000) : ∃ v, S89 k l = some ((v, ()), ()) := by
 unfold S89
 exact L89_3_some hk hl2 l.length 0 k _ (by omega) (by omega)
theorem sumL_len {x : Th} (h : SmT x) : (sumL x).length ≤ 500 := by
 obtain ⟨h1, h2, h3⟩ := h
 have := flat_len2 x.2.2.2.2.1.2
 unfold sumL
 simp only [List.length_append, List.length_cons, List.length_nil] at this ⊢
 omega
noncomputable def sumV (k : Nat) (x : Th) : Int := match S89 k (sumL x) with | some q => q.1.1 | none => 0
theorem S54_eq {k : Nat} (hk : 1000 ≤ k) {x : Th} (h : SmT x) : S54 k x = some ((sumV k x, ()), ()) := by
 rw [S54_list hk h]
 have hl := sumL_len h
 obtain ⟨v, hv⟩ := S89_some hk (l := sumL x) (by omega) (by omega)
 unfold sumV; rw [hv]
noncomputable def sealT (k : Nat) (x : Th) : Th := (x.1, x.2.1, x.2.2.1, x.2.2.2.1, x.2.2.2.2.1, sumV k x)
theorem S47_eq {k : Nat} (hk : 1000 ≤ k) {x : Th} (h : SmT x) : S47 k x = some ((sealT k x, ()), ()) := by
 unfold S47; rw [S54_eq hk h]; rfl
def isTh (t : Tb) (i : Int) : Bool := decide (0 ≤ i) && (decide (i < (t.2.length : Int)) && (rd t.2 i th0).1 != 0)
theorem S52_eq {k : Nat} {t : Tb} {i : Int} : S52 k t i = some ((isTh t i, ()), ()) := by
 unfold S52 isTh
 by_cases h : 0 ≤ i
 ·rw [bif_t h, decide_eq_true h]
  by_cases h2 : i < (t.2.length : Int)
  ·rw [bif_t h2, decide_eq_true h2, ix_ok h h2]; rfl
  ·rw [bif_f h2, decide_eq_false h2]; rfl
 ·rw [bif_f h, decide_eq_false h]; rfl
end Go.Proofs.Ytnlfdfjkgaanjaa.Ab

/- Tables: what is put, what is turned, what begins anew. -/
namespace Go.Proofs.Ytnlfdfjkgaanjaa.Ab
open Go.RowKit
set_option linter.unusedSimpArgs false
set_option linter.unusedVariables false
theorem isTh_in {t : Tb} {i : Int} (h : isTh t i = true) : 0 ≤ i ∧ i < (t.2.length : Int) ∧ (rd t.2 i th0).1 ≠ 0 := by
 unfold isTh at h
 simp only [Bool.and_eq_true, decide_eq_true_eq, bne_iff_ne, ne_eq] at h
 exact ⟨h.1, h.2.1, h.2.2⟩
theorem rd_mem {t : List Th} {i : Int} (h0 : 0 ≤ i) (h1 : i < (t.length : Int)) : rd t i th0 ∈ t := by
 obtain ⟨n, rfl⟩ : ∃ n : Nat, i = (n : Int) := ⟨i.toNat, by omega⟩
 rw [rd_nat]; exact getD_mem (by omega)
/-! ### who waits -/
def waitsT (x : Th) : List Int := x.2.2.2.1.2 ++ x.2.2.2.2.1.2.map (·.1)
theorem S84_eq {k : Nat} (hk : 1000 ≤ k) {f : Int × List (Int × Int)} (h : f.2.length ≤ 100) : S84 k f = some (((0, []), f.2.map (·.1), ()), ()) := by
 unfold S84
 have := loopF (L := fun j (who : List Int) i => L84_2 k j 0 who f.2 (f.2.length : Int) i) (n := f.2.length) (fun i who => who = (f.2.take i).map (·.1))
  (fun i who => who ++ [(f.2.getD i (0, 0)).1]) (fun who => some ((((0, []), who, ()), ())))
  (fun j i who hi hv => by
   show L84_2 k (j + 1) 0 who f.2 (f.2.length : Int) (i : Int) = _
   have hl : who.length ≤ 100 := by rw [hv, List.length_map, List.length_take]; omega
   rw [L84_2_s, l84_2, bif_t (by omega), ix_nat hi, rd_nat, ap_ok (by simp only [List.length_cons, List.length_nil]; omega), w64_nat (by omega)])
  (fun i who hi hv => by rw [hv, List.take_add_one, getD_in hi, List.getElem?_eq_getElem hi, List.map_append]; rfl)
  (fun j who hv => by
   show L84_2 k (j + 1) 0 who f.2 (f.2.length : Int) (f.2.length : Int) = _
   rw [L84_2_s, l84_2, bif_f (by omega)]) f.2.length 0 k [] (by omega) (by omega) (by simp)
 have hg := goF_inv (inv := fun i (who : List Int) => who = (f.2.take i).map (·.1)) (f := fun i who => who ++ [(f.2.getD i (0, 0)).1]) (n := f.2.length) (fun i who hi hv => by rw [hv, List.take_add_one, getD_in hi, List.getElem?_eq_getElem hi, List.map_append]; rfl) f.2.length 0 [] (by omega) (by simp)
 refine Eq.trans this ?_
 rw [hg, List.take_length]
theorem S83_eq {k : Nat} {b : List Int × List Int} (h : b.2.length ≤ 100) : S83 k b = some ((([], []), b.2, ()), ()) := by
 unfold S83
 simp only [S78, S79, S87, S88]
 rw [clone_eq (by omega)]; rfl
theorem S102_eq {k : Nat} {n : Int} (h0 : 0 ≤ n) (h1 : n ≤ 100000) : S102 k n = some (([], ()), ()) := by
 unfold S102
 rw [bif_f (by omega), w64 (by omega) (by omega)]
 by_cases e : n - 0 > 0
 ·rw [bif_t e]
  unfold az
  rw [if_pos]
  ·dsimp only
   rw [sx_ok (by omega) (by omega) (by omega)]; simp
  ·simp only [Bool.and_eq_true, decide_eq_true_eq, List.length_nil]; omega
 ·rw [bif_f e]
theorem S85_two {k : Nat} (hk : 1000 ≤ k) {a b : List Int} (ha : a.length ≤ 1000) (hb : b.length ≤ 1000) : S85 k [a, b] = some ((a ++ b, ()), ()) := by
 unfold S85
 obtain ⟨k', rfl⟩ : ∃ k', k = k' + 3 := ⟨k - 3, by omega⟩
 have e0 : rd [a, b] 0 [] = a := rfl
 have e1 : rd [a, b] 1 [] = b := rfl
 have w1 : IntKind.i64.wrap (0 + 1) = 1 := rfl
 have w2 : IntKind.i64.wrap (1 + 1) = 2 := rfl
 have hlen : (([a, b] : List (List Int)).length : Int) = 2 := rfl
 rw [hlen, L85_3_s, l85_3, bif_t (by omega), ix_ok (by omega) (by omega), e0, w1, w64 (by omega) (by omega), bif_f (by omega), L85_3_s, l85_3, bif_t (by omega), ix_ok (by omega) (by omega), e1, w2, w64 (by omega) (by omega), bif_f (by omega), L85_3_s, l85_3, bif_f (by omega), S102_eq (by omega) (by omega), Option.bind_some, hlen]
 simp only
 rw [L85_11_s, l85_11, bif_t (by omega), ix_ok (by omega) (by omega), e0, w1, ap_ok (by simp only [List.length_nil]; omega), L85_11_s, l85_11, bif_t (by omega), ix_ok (by omega) (by omega), e1, w2, ap_ok (by simp only [List.nil_append]; omega), L85_11_s, l85_11, bif_f (by omega), List.nil_append]
theorem S50_eq {k : Nat} (hk : 1000 ≤ k) {x : Th} (h : SmT x) : S50 k x = some ((waitsT x, ()), ()) := by
 obtain ⟨h1, h2, h3⟩ := h
 unfold S50 waitsT
 rw [S83_eq h2, Option.bind_some, S84_eq hk h3, Option.bind_some]
 simp only
 rw [S85_two hk (by omega) (by rw [List.length_map]; omega)]; rfl
end Go.Proofs.Ytnlfdfjkgaanjaa.Ab

/- Tables: what is made; what is put is sealed: the law. -/
namespace Go.Proofs.Ytnlfdfjkgaanjaa.Ab
open Go.RowKit
set_option linter.unusedSimpArgs false
set_option linter.unusedVariables false
abbrev Sl : Type := List Int × List Bool
def freeI (s : Sl) : Int := idxI (fun b => b == false) (s.2.take (min s.1.length s.2.length))
def takeV (s : Sl) : Sl × (Int × Int) × Bool :=
 if freeI s < 0 then (s, (0, 0), false)
 else ((s.1.set (freeI s).toNat (IntKind.i64.wrap (s.1.getD (freeI s).toNat 0 + 1)), s.2.set (freeI s).toNat true), (freeI s, IntKind.i64.wrap (s.1.getD (freeI s).toNat 0 + 1)), true)
theorem idxI_range {α : Type} (f : α → Bool) (xs : List α) : idxI f xs = -1 ∨ ∃ n : Nat, n < xs.length ∧ idxI f xs = (n : Int) := by
 unfold idxI
 cases h : xs.findIdx? f with
 | none => exact .inl rfl
 | some n =>
  rw [List.findIdx?_eq_some_iff_getElem] at h
  obtain ⟨hn, _⟩ := h
  exact .inr ⟨n, hn, rfl⟩
theorem S81_eq {k : Nat} (hk : 1000 ≤ k) {s : List Bool} (h : s.length ≤ 900) : S81 k s false = some ((idxI (fun b => b == false) s, ()), ()) := by
 unfold S81
 refine idx_all (fun j i => L81_2 k j s false (s.length : Int) i) s false _ (fun j i hi => ?_) (fun j => ?_) k (by omega)
 ·show L81_2 k (j + 1) s false (s.length : Int) (i : Int) = _
  rw [L81_2_s, l81_2, bif_t (by omega), ix_nat hi, w64_nat (by omega), rd_nat]
  cases s.getD i false <;> rfl
 ·show L81_2 k (j + 1) s false (s.length : Int) (s.length : Int) = _
  rw [L81_2_s, l81_2, bif_f (by omega)]
theorem S46_eq {k : Nat} (hk : 1000 ≤ k) {s : Sl} (h1 : s.1.length ≤ 100) (h2 : s.2.length ≤ 100) : S46 k s = some (((takeV s).1, (takeV s).2.1, (takeV s).2.2, ()), ()) := by
 unfold S46 S80 S82
 simp only [S78, S79, S87, S88]
 rw [clone_eq (by omega), Option.bind_some, clone_eq (by omega), Option.bind_some, Option.bind_some, Option.bind_some, mn_eq]
 simp only
 have hm : min (s.1.length : Int) (s.2.length : Int) = ((min s.1.length s.2.length : Nat) : Int) := by omega
 have hsub : sub s.2 0 ((min s.1.length s.2.length : Nat) : Int) = s.2.take (min s.1.length s.2.length) := by simp [sub]
 rw [hm, sx_ok (by omega) (by omega) (by omega), hsub, S81_eq hk (by rw [List.length_take]; omega), Option.bind_some]
 unfold takeV
 rcases idxI_range (fun b => b == false) (s.2.take (min s.1.length s.2.length)) with e | ⟨n, hn, e⟩
 ·have hf : freeI s = -1 := e
  rw [hf, if_pos (by omega)]
  simp only [e]
  rw [bif_t (by omega)]
 ·have hf : freeI s = (n : Int) := e
  rw [List.length_take] at hn
  rw [hf, if_neg (by omega)]
  simp only [e]
  rw [bif_f (by omega), ix_nat (by omega), ix_nat (by omega), ix_nat (by omega), ix_ok (by omega) (by rw [upd_len]; omega)]
  simp only [rd_nat, upd_nat, Int.toNat_natCast]
  rw [set_get, if_pos ⟨rfl, by omega⟩]
def manyT (c : Int) (l : List Th) : Nat := l.countP (fun x => x.1 == c)
def freshT (c : Int) (h : Int × Int) : Th := (c, h, (if c = 1 then 8 else 0, 0), ([], []), (0, []), 0)
noncomputable def makeV (k : Nat) (t : Tb) (c : Int) : Tb × (Int × Int) × Bool :=
 if 4 ≤ manyT c t.2 ∨ (takeV t.1).2.2 = false ∨ (t.2.length : Int) ≤ (takeV t.1).2.1.1 then (t, (0, 0), false)
 else (((takeV t.1).1, upd t.2 (takeV t.1).2.1.1 (sealT k (freshT c (takeV t.1).2.1))), (takeV t.1).2.1, true)
theorem takeV_at (s : Sl) : 0 ≤ (takeV s).2.1.1 := by
 unfold takeV
 split
 ·simp
 ·rename_i h; simp only; omega
theorem L21_4_eq {k : Nat} (hk : 1000 ≤ k) {c a b : Int} {mo : List (Int × Int)} {t : Tb} (hmo : mget (.int .i64) (.int .i64) c mo 0 = 4) (h1 : t.1.1.length ≤ 100) (h2 : t.1.2.length ≤ 100) (h3 : t.2.length ≤ 100) : ∀ (m i j n : Nat), i + m = t.2.length → m < j → n ≤ i →
  L21_4 k j c a b mo t.1.1 t.1.2 t.2 (n : Int) t.2 (t.2.length : Int) (i : Int) =
   (if 4 ≤ n + manyT c (t.2.drop i) ∨ (takeV t.1).2.2 = false ∨ (t.2.length : Int) ≤ (takeV t.1).2.1.1 then some ((t, (0, 0), false, ()), ()) else some ((((takeV t.1).1, upd t.2 (takeV t.1).2.1.1 (sealT k (freshT c (takeV t.1).2.1))), (takeV t.1).2.1, true, ()), ()))
 | 0, i, j, n, h, hj, hn => by
  obtain ⟨j', rfl⟩ : ∃ j', j = j' + 1 := ⟨j - 1, by omega⟩
  rw [L21_4_s, l21_4, bif_f (by omega), S46_eq hk h1 h2, Option.bind_some, drop_nil (by omega), hmo]
  have hma : manyT c [] = 0 := rfl
  rw [hma, Nat.add_zero]
  simp only
  have e0 : ((t.1.1, t.1.2) : Sl) = t.1 := rfl
  rw [e0]
  by_cases e : 4 ≤ n
  ·rw [bif_t (by omega), if_pos (.inl e)]
  ·rw [bif_f (by omega)]
   cases hok : (takeV t.1).2.2 with
   | false => rw [if_pos (.inr (.inl rfl))]; rfl
   | true =>
    rw [Bool.not_true, cond_false]
    by_cases e2 : (t.2.length : Int) ≤ (takeV t.1).2.1.1
    ·rw [bif_t (by omega), if_pos (.inr (.inr e2))]
    ·have hat := takeV_at t.1
     rw [bif_f (by omega), if_neg (by rintro (q | q | q); exact e q; cases q; exact e2 q)]
     have hfr : S48 k c (takeV t.1).2.1 = some ((freshT c (takeV t.1).2.1, ()), ()) := by
      unfold S48 freshT
      by_cases e3 : c = 1
      ·rw [show (c == 1) = true by rw [e3]; rfl, cond_true, if_pos e3]
      ·rw [show (c == 1) = false by simpa using e3, cond_false, if_neg e3]
     rw [hfr, Option.bind_some, S47_eq hk ⟨by simp [freshT], by simp [freshT], by simp [freshT]⟩, Option.bind_some, ix_ok hat (by omega)]
 | m + 1, i, j, n, h, hj, hn => by
  obtain ⟨j', rfl⟩ : ∃ j', j = j' + 1 := ⟨j - 1, by omega⟩
  have hi : i < t.2.length := by omega
  have ih := L21_4_eq hk (c := c) (a := a) (b := b) hmo h1 h2 h3 m (i + 1) j'
  have hc : manyT c (t.2.getD i th0 :: t.2.drop (i + 1)) = manyT c (t.2.drop (i + 1)) + (if ((t.2.getD i th0).1 == c) = true then 1 else 0) := by unfold manyT; rw [List.countP_cons]
  rw [L21_4_s, l21_4, bif_t (by omega), ix_nat hi, rd_nat, w64_nat (by omega), w64_nat (by omega), drop_cons th0 hi, hc]
  cases e : (t.2.getD i th0).1 == c with
  | true =>
   simp only [cond_true, if_true]
   rw [ih (n + 1) (by omega) (by omega) (by omega), show n + (manyT c (t.2.drop (i + 1)) + 1) = n + 1 + manyT c (t.2.drop (i + 1)) by omega]
  | false =>
   simp only [cond_false, Bool.false_eq_true, if_false, Nat.add_zero]
   exact ih n (by omega) (by omega) (by omega)
theorem S21_eq {k : Nat} (hk : 1000 ≤ k) {t : Tb} {c : Int} (ht : SmB t) (hc : c = 1 ∨ c = 2 ∨ c = 3) : S21 k t c = some (((makeV k t c).1, (makeV k t c).2.1, (makeV k t c).2.2, ()), ()) := by
 unfold S21
 rw [S45_eq hk ht, Option.bind_some]
 obtain ⟨⟨h1, h2, h3⟩, _⟩ := ht
 have hmo : mget (.int .i64) (.int .i64) c (updD (.int .i64) (.int .i64) 3 4 (updD (.int .i64) (.int .i64) 2 4 (updD (.int .i64) (.int .i64) 1 4 ([] : List (Int × Int))))) 0 = 4 := by
  rcases hc with rfl | rfl | rfl <;> rfl
 have := L21_4_eq hk (c := c) (a := 0) (b := 0) hmo h1 h2 h3 t.2.length 0 k 0 (by omega) (by omega) (by omega)
 rw [List.drop_zero, Nat.zero_add] at this
 refine Eq.trans this ?_
 unfold makeV
 split <;> rfl
def newT : Tb := ((List.replicate 12 0, List.replicate 12 false), List.replicate 12 th0)
theorem S20_eq (k : Nat) : S20 k = some ((newT, ()), ()) := rfl
theorem SmT_0 : SmT th0 := ⟨by simp, by simp, by simp⟩
theorem SmB_new : SmB newT := ⟨⟨by simp [newT], by simp [newT], by simp [newT]⟩, fun x hx => by
 rw [List.eq_of_mem_replicate hx]; exact SmT_0⟩
theorem S19_eq : S19 1000 = some ((true, ()), ()) := by kernel_rfl
theorem wf_u8' {n : Int} (h : (Lit.int .u8 n).wf = true) : 0 ≤ n ∧ n ≤ 255 := by
 simp [Lit.wf, IntKind.min, IntKind.max, IntKind.signed, IntKind.bits] at h
 omega
end Go.Proofs.Ytnlfdfjkgaanjaa.Ab

/- Handles are had till they are dropped: the law. -/
namespace Go.Proofs.Ytnlfdfjkgaanjaa.Ab
open Go.RowKit
set_option linter.unusedSimpArgs false
set_option linter.unusedVariables false
theorem lookD_upd2 {tk tv : Ty} (hb : ∀ a b : tk.D, beqD tk a b = true ↔ a = b) (d e : tk.D) (v : tv.D) : ∀ (es : List (tk.D × tv.D)), lookD tk tv e (updD tk tv d v es) = if beqD tk e d = true then some v else lookD tk tv e es
 | [] => by
  simp only [updD, lookD]
  cases beqD tk e d <;> rfl
 | x :: r => by
  simp only [updD]
  cases h : beqD tk d x.1 with
  | true =>
   have := (hb _ _).1 h
   simp only [lookD]
   rw [← this]
   cases beqD tk e d <;> rfl
  | false =>
   simp only [lookD]
   rw [lookD_upd2 hb d e v r]
   cases h2 : beqD tk e x.1 with
   | true =>
    have h3 := (hb _ _).1 h2
    subst h3
    cases h4 : beqD tk x.1 d with
    | true =>
     have h5 := (hb _ _).1 h4
     rw [← h5, (hb _ _).2 rfl] at h
     cases h
    | false => rfl
   | false => rfl
abbrev HT : Ty := .pair (.int .i64) (.int .i64)
theorem beqD_HT (a b : HT.D) : beqD HT a b = true ↔ a = b := by
 show (a.1 == b.1 && a.2 == b.2) = true ↔ a = b
 rw [Bool.and_eq_true, beq_iff_eq, beq_iff_eq]
 exact ⟨fun h => Prod.ext h.1 h.2, fun h => by subst h; exact ⟨rfl, rfl⟩⟩
def hasV (s : Sl) (h : Int × Int) : Bool := decide (0 ≤ h.1) && (decide (h.1 < (min s.1.length s.2.length : Nat)) && (rd s.2 h.1 false && (rd s.1 h.1 0 == h.2)))
theorem L86_3_eq {k : Nat} {s : Sl} (h1 : s.1.length ≤ 100) (h2 : s.2.length ≤ 100) (h : Int × Int) : ∀ (m i j : Nat) (es : List ((Int × Int) × Bool)), i + m = min s.1.length s.2.length → m < j →
  (lookD HT .bool h es = if ∃ n : Nat, n < i ∧ s.2.getD n false = true ∧ h = ((n : Int), s.1.getD n 0) then some true else none) →
  ∃ es', L86_3 k j s.1 s.2 es ((min s.1.length s.2.length : Nat) : Int) (i : Int) = some ((es', ()), ()) ∧ (lookD HT .bool h es' = if ∃ n : Nat, n < min s.1.length s.2.length ∧ s.2.getD n false = true ∧ h = ((n : Int), s.1.getD n 0) then some true else none)
 | 0, i, j, es, hi, hj, he => by
  obtain ⟨j', rfl⟩ : ∃ j', j = j' + 1 := ⟨j - 1, by omega⟩
  have : i = min s.1.length s.2.length := by omega
  subst this
  rw [L86_3_s, l86_3, bif_f (by omega)]
  exact ⟨es, rfl, he⟩
 | m + 1, i, j, es, hi, hj, he => by
  obtain ⟨j', rfl⟩ : ∃ j', j = j' + 1 := ⟨j - 1, by omega⟩
  rw [L86_3_s, l86_3, bif_t (by omega), ix_nat (by omega), rd_nat, w64_nat (by omega)]
  cases e : s.2.getD i false with
  | false =>
   rw [cond_false]
   refine L86_3_eq h1 h2 h m (i + 1) j' es (by omega) (by omega) ?_
   rw [he]
   congr 1
   refine propext ⟨fun ⟨n, q1, q2⟩ => ⟨n, by omega, q2⟩, fun ⟨n, q1, q2, q3⟩ => ?_⟩
   by_cases en : n = i
   ·subst en; rw [e] at q2; cases q2
   ·exact ⟨n, by omega, q2, q3⟩
  | true =>
   rw [cond_true, ix_nat (by omega), rd_nat]
   refine L86_3_eq h1 h2 h m (i + 1) j' _ (by omega) (by omega) ?_
   rw [lookD_upd2 beqD_HT, he]
   by_cases c : beqD HT h ((i : Int), s.1.getD i 0) = true
   ·have c' := (beqD_HT _ _).1 c
    rw [if_pos c, if_pos ⟨i, by omega, e, c'⟩]
   ·rw [if_neg c]
    congr 1
    refine propext ⟨fun ⟨n, q1, q2⟩ => ⟨n, by omega, q2⟩, fun ⟨n, q1, q2, q3⟩ => ?_⟩
    by_cases en : n = i
    ·subst en; exact absurd ((beqD_HT _ _).2 q3) c
    ·exact ⟨n, by omega, q2, q3⟩
theorem S51_eq {k : Nat} (hk : 1000 ≤ k) {s : Sl} {h : Int × Int} (h1 : s.1.length ≤ 100) (h2 : s.2.length ≤ 100) : S51 k s h = some ((hasV s h, ()), ()) := by
 unfold S51 S86 S82
 rw [Option.bind_some, mn_eq]
 simp only
 have hm : min (s.1.length : Int) (s.2.length : Int) = ((min s.1.length s.2.length : Nat) : Int) := by omega
 obtain ⟨es, g1, g2⟩ := L86_3_eq (k := k) h1 h2 h (min s.1.length s.2.length) 0 k [] (by omega) (by omega) (by
  rw [if_neg (by rintro ⟨n, q, _⟩; omega)]; rfl)
 rw [hm, show (0 : Int) = ((0 : Nat) : Int) from rfl, g1, Option.bind_some]
 unfold mget
 rw [g2]
 unfold hasV
 by_cases c : ∃ n : Nat, n < min s.1.length s.2.length ∧ s.2.getD n false = true ∧ h = ((n : Int), s.1.getD n 0)
 ·rw [if_pos c]
  obtain ⟨n, q1, q2, rfl⟩ := c
  simp only
  rw [decide_eq_true (show (0 : Int) ≤ (n : Int) by omega), decide_eq_true (show (n : Int) < ((min s.1.length s.2.length : Nat) : Int) by omega), rd_nat, rd_nat, q2, beq_self_eq_true]; rfl
 ·rw [if_neg c]
  cases e : decide (0 ≤ h.1) with
  | false => rfl
  | true =>
   have e1 := of_decide_eq_true e
   cases f : decide (h.1 < ((min s.1.length s.2.length : Nat) : Int)) with
   | false => rfl
   | true =>
    have f1 := of_decide_eq_true f
    obtain ⟨n, hn⟩ : ∃ n : Nat, h.1 = (n : Int) := ⟨h.1.toNat, by omega⟩
    rw [hn, rd_nat, rd_nat]
    cases g : s.2.getD n false with
    | false => rfl
    | true =>
     cases q : s.1.getD n 0 == h.2 with
     | false => rfl
     | true => exact absurd ⟨n, by omega, g, Prod.ext hn (eq_of_beq q).symm⟩ c
def findV (t : Tb) (h : Int × Int) : Bool := hasV t.1 h && isTh t h.1
theorem S23_eq {k : Nat} (hk : 1000 ≤ k) {t : Tb} {h : Int × Int} (ht : SmB t) : S23 k t h = some (((if findV t h = true then h.1 else 0), findV t h, ()), ()) := by
 unfold S23 findV
 rw [S51_eq hk ht.1.1 ht.1.2.1, Option.bind_some]
 cases hasV t.1 h with
 | false => rfl
 | true =>
  simp only [Bool.not_true, cond_false, Bool.true_and]
  rw [S52_eq, Option.bind_some]
  cases isTh t h.1 <;> rfl
def dropV (t : Tb) (h : Int × Int) : Tb := if findV t h = true ∧ (rd t.2 h.1 th0).1 ≠ 1 then ((t.1.1, upd t.1.2 h.1 false), upd t.2 h.1 th0) else t
theorem S22_eq {k : Nat} (hk : 1000 ≤ k) {t : Tb} {h : Int × Int} (ht : SmB t) : ∃ who, S22 k t h = some ((dropV t h, who, decide (findV t h = true ∧ (rd t.2 h.1 th0).1 ≠ 1), ()), ()) := by
 unfold S22 dropV
 rw [S45_eq hk ht, Option.bind_some, S23_eq hk ht, Option.bind_some]
 cases hf : findV t h with
 | false => exact ⟨[], by simp⟩
 | true =>
  have hf' := hf
  unfold findV at hf'
  rw [Bool.and_eq_true] at hf'
  obtain ⟨h0, h1, h2⟩ := isTh_in hf'.2
  simp only [Bool.not_true, cond_false, if_true, true_and]
  rw [ix_ok h0 h1]
  by_cases e : (rd t.2 h.1 th0).1 = 1
  ·exact ⟨[], by rw [show ((rd t.2 h.1 th0).1 == 1) = true by rw [e]; rfl, cond_true, if_neg (fun q => q e), decide_eq_false (fun q => q e)]⟩
  ·rw [show ((rd t.2 h.1 th0).1 == 1) = false by simpa using e, cond_false, if_pos e, decide_eq_true e]
   have hfree : S49 k t.1 h = some (((t.1.1, upd t.1.2 h.1 false), true, ()), ()) := by
    unfold S49 S80
    simp only [S78, S79, S87, S88]
    rw [clone_eq (by have := ht.1.1; omega), Option.bind_some, clone_eq (by have := ht.1.2.1; omega), Option.bind_some, Option.bind_some]
    simp only
    have e0 : ((t.1.1, t.1.2) : Sl) = t.1 := rfl
    rw [e0, S51_eq hk ht.1.1 ht.1.2.1, Option.bind_some, hf'.1]
    have hh := hf'.1
    unfold hasV at hh
    simp only [Bool.and_eq_true, decide_eq_true_eq] at hh
    simp only [Bool.not_true, cond_false]
    rw [ix_ok h0 (by omega)]
   rw [hfree, Option.bind_some, ix_ok h0 h1, ix_ok h0 h1, S50_eq hk (ht.2 _ (rd_mem h0 h1)), Option.bind_some]
   exact ⟨_, rfl⟩
structure JH (t : Tb) (told : List (Int × Int)) (has : List Bool) (kind : List Int) (n : Nat) : Prop where
 sm : SmB t
 l1 : t.1.1.length = 12
 l2 : t.1.2.length = 12
 l3 : t.2.length = 12
 lh : has.length = told.length
 lk : kind.length = told.length
 ln : told.length ≤ n
 is_ : ∀ i, i < 12 → (t.1.2.getD i false = true ↔ (t.2.getD i th0).1 ≠ 0)
 kd : ∀ i, i < 12 → (t.2.getD i th0).1 ≠ 1
 gen : ∀ i, i < 12 → 0 ≤ t.1.1.getD i 0 ∧ t.1.1.getD i 0 ≤ (n : Int)
 at_ : ∀ m, m < told.length → ∃ i : Nat, i < 12 ∧ (told.getD m (0, 0)).1 = (i : Int) ∧ (told.getD m (0, 0)).2 ≤ t.1.1.getD i 0 ∧ (has.getD m false = true ↔ (t.1.2.getD i false = true ∧ t.1.1.getD i 0 = (told.getD m (0, 0)).2)) ∧ (has.getD m false = true → (t.2.getD i th0).1 = kind.getD m 0)
 nod : ∀ m m', m < told.length → m' < told.length → told.getD m (0, 0) = told.getD m' (0, 0) → m = m'
theorem isTh_nat2 {t : Tb} (l3 : t.2.length = 12) {i : Nat} (h : i < 12) : isTh t (i : Int) = ((t.2.getD i th0).1 != 0) := by
 unfold isTh; rw [decide_eq_true (show (0 : Int) ≤ (i : Int) by omega), decide_eq_true (show (i : Int) < (t.2.length : Int) by omega), rd_nat]; rfl
theorem find_has {t : Tb} {told : List (Int × Int)} {has : List Bool} {kind : List Int} {n : Nat} (h : JH t told has kind n) {m : Nat} (hm : m < told.length) : findV t (told.getD m (0, 0)) = has.getD m false := by
 obtain ⟨i, h1, h2, h3, h4, h5⟩ := h.at_ m hm
 have l1 := h.l1; have l2 := h.l2; have l3 := h.l3
 have hi := h.is_ i h1
 unfold findV hasV
 rw [h2, isTh_nat2 l3 h1, l1, l2, decide_eq_true (show (0 : Int) ≤ (i : Int) by omega), decide_eq_true (show (i : Int) < ((min 12 12 : Nat) : Int) by omega), rd_nat, rd_nat, Bool.true_and, Bool.true_and, Bool.eq_iff_iff, h4, Bool.and_eq_true, Bool.and_eq_true, beq_iff_eq, bne_iff_ne]
 exact ⟨fun q => q.1, fun q => ⟨q, hi.1 q.1⟩⟩
theorem L9_29_eq {k : Nat} (hk : 1000 ≤ k) {g : List (Int × Int) → List Int → List Bool → List Th → List (Int × Int) → List Bool → List Int → Int → Option ((Bool × Unit) × Unit)} {l : List (Int × Int)} {t : Tb} {told : List (Int × Int)} {has : List Bool} {kind : List Int} {n ii : Nat} (h : JH t told has kind n) (hn : n ≤ 100) (hi : ii ≤ 100) (j : Nat) (hj : told.length < j) :
  L9_29 k g j l t.1.1 t.1.2 t.2 told has kind (ii : Int) 0 = g l t.1.1 t.1.2 t.2 told has kind ((ii + 1 : Nat) : Int) := by
 have hln := h.ln
 have r := anyN (L := fun j m => L9_29 k g j l t.1.1 t.1.2 t.2 told has kind (ii : Int) m) (n := told.length) (fun _ => false) none (g l t.1.1 t.1.2 t.2 told has kind ((ii + 1 : Nat) : Int)) (fun j m hm => by
  show L9_29 k g (j + 1) l t.1.1 t.1.2 t.2 told has kind (ii : Int) (m : Int) = L9_29 k g j l t.1.1 t.1.2 t.2 told has kind (ii : Int) ((m + 1 : Nat) : Int)
  have hlh := h.lh; have hlk := h.lk
  obtain ⟨i, h1, h2, h3, h4, h5⟩ := h.at_ m hm
  have e0 : (((t.1.1, t.1.2), t.2) : Tb) = t := rfl
  rw [L9_29_s, l9_29, bif_t (by omega), ix_nat hm, e0, rd_nat, S23_eq hk h.sm, Option.bind_some, ix_nat (by omega), rd_nat, find_has h hm, w64_nat (by omega), beq_self_eq_true]
  simp only [Bool.not_true, cond_false]
  cases hb : has.getD m false with
  | false => rfl
  | true =>
   have l3 := h.l3
   rw [cond_true, ix_nat hm, if_pos rfl, bne_self_eq_false, cond_false, h2, bif_f (by omega), bif_f (by omega), ix_nat (by omega), ix_nat (by omega), rd_nat, rd_nat, h5 hb, bne_self_eq_false, cond_false]) (fun j => by
  show L9_29 k g (j + 1) l t.1.1 t.1.2 t.2 told has kind (ii : Int) (told.length : Int) = _
  rw [L9_29_s, l9_29, bif_f (by omega), w64_nat (by omega)]) told.length 0 j (by omega) hj
 rw [(anyF_none _ _ _).2 (fun _ _ _ => rfl), cond_false] at r
 exact r
theorem make_JH {k : Nat} {t : Tb} {told : List (Int × Int)} {has : List Bool} {kind : List Int} {n : Nat} {c : Int} (hc : c = 2 ∨ c = 3) (hn : n ≤ 100) (h : JH t told has kind n) :
  ((makeV k t c).2.2 = false ∧ (makeV k t c).1 = t) ∨ ((makeV k t c).2.2 = true ∧ (∀ m, m < told.length → told.getD m (0, 0) ≠ (makeV k t c).2.1) ∧ JH (makeV k t c).1 (told ++ [(makeV k t c).2.1]) (has ++ [true]) (kind ++ [c]) (n + 1)) := by
 unfold makeV
 split
 ·exact .inl ⟨rfl, rfl⟩
 ·rename_i hno
  right
  obtain ⟨sm, l1, l2, l3, lh, lk, ln, is_, kd, gen, at_, nod⟩ := h
  have hfr : ¬ freeI t.1 < 0 := fun e => hno (.inr (.inl (by unfold takeV; rw [if_pos e])))
  have htk : takeV t.1 = ((t.1.1.set (freeI t.1).toNat (IntKind.i64.wrap (t.1.1.getD (freeI t.1).toNat 0 + 1)), t.1.2.set (freeI t.1).toNat true), (freeI t.1, IntKind.i64.wrap (t.1.1.getD (freeI t.1).toNat 0 + 1)), true) := by unfold takeV; rw [if_neg hfr]
  obtain ⟨i, hi, hfi⟩ : ∃ i : Nat, i < 12 ∧ freeI t.1 = (i : Int) := by
   unfold freeI at hfr ⊢
   rcases idxI_range (fun b => b == false) (t.1.2.take (min t.1.1.length t.1.2.length)) with e | ⟨i, hi, e⟩
   ·omega
   ·rw [List.length_take] at hi; exact ⟨i, by omega, e⟩
  have hfree : t.1.2.getD i false = false := by
   have hq := hfi
   unfold freeI idxI at hq
   split at hq
   ·rename_i n' hn'
    rw [List.findIdx?_eq_some_iff_getElem] at hn'
    obtain ⟨a1, a2, _⟩ := hn'
    have : n' = i := by omega
    subst this
    rw [List.getElem_take] at a2
    rw [getD_in (by omega)]; simpa using a2
   ·omega
  have gi := gen i hi
  rw [hfi, Int.toNat_natCast, w64 (n := t.1.1.getD i 0 + 1) (by omega) (by omega)] at htk
  rw [htk]
  simp only
  have hnew : ∀ m, m < told.length → told.getD m (0, 0) ≠ ((i : Int), t.1.1.getD i 0 + 1) := fun m hm e => by
   obtain ⟨i', q1, q2, q3, _⟩ := at_ m hm
   rw [e] at q2 q3
   simp only at q2 q3
   have : i' = i := by omega
   subst this; omega
  have hfs : SmT (sealT k (freshT c ((i : Int), t.1.1.getD i 0 + 1))) := ⟨by simp [sealT, freshT], by simp [sealT, freshT], by simp [sealT, freshT]⟩
  have g1 : ∀ a, (t.1.1.set i (t.1.1.getD i 0 + 1)).getD a 0 = if i = a then t.1.1.getD i 0 + 1 else t.1.1.getD a 0 := fun a => by
   rw [set_get]; by_cases e : i = a
   ·subst e; rw [if_pos ⟨rfl, by omega⟩, if_pos rfl]
   ·rw [if_neg (fun q => e q.1), if_neg e]
  have g2 : ∀ a, (t.1.2.set i true).getD a false = if i = a then true else t.1.2.getD a false := fun a => by
   rw [set_get]; by_cases e : i = a
   ·subst e; rw [if_pos ⟨rfl, by omega⟩, if_pos rfl]
   ·rw [if_neg (fun q => e q.1), if_neg e]
  have g3 : ∀ a, (upd t.2 (i : Int) (sealT k (freshT c ((i : Int), t.1.1.getD i 0 + 1)))).getD a th0 = if i = a then sealT k (freshT c ((i : Int), t.1.1.getD i 0 + 1)) else t.2.getD a th0 := fun a => by
   rw [upd_nat, set_get]; by_cases e : i = a
   ·subst e; rw [if_pos ⟨rfl, by omega⟩, if_pos rfl]
   ·rw [if_neg (fun q => e q.1), if_neg e]
  have ek : (sealT k (freshT c ((i : Int), t.1.1.getD i 0 + 1))).1 = c := rfl
  refine ⟨trivial, hnew, ⟨⟨⟨by simp only [List.length_set]; omega, by simp only [List.length_set]; omega, by simp only; rw [upd_len]; omega⟩, fun x hx => ?_⟩, by simp only [List.length_set]; exact l1, by simp only [List.length_set]; exact l2, by simp only; rw [upd_len]; exact l3, by simp [lh], by simp [lk], by simp; omega, fun a ha => ?_, fun a ha => ?_, fun a ha => ?_, fun m hm => ?_, fun m m' hm hm' e => ?_⟩⟩
  ·rcases List.mem_or_eq_of_mem_set hx with q | q
   ·exact sm.2 x q
   ·rw [q]; exact hfs
  ·simp only; rw [g2, g3]
   by_cases e : i = a
   ·rw [if_pos e, if_pos e, ek]; exact ⟨fun _ => by omega, fun _ => rfl⟩
   ·rw [if_neg e, if_neg e]; exact is_ a ha
  ·simp only; rw [g3]
   by_cases e : i = a
   ·rw [if_pos e, ek]; omega
   ·rw [if_neg e]; exact kd a ha
  ·simp only; rw [g1]
   have := gen a ha
   by_cases e : i = a
   ·rw [if_pos e]; omega
   ·rw [if_neg e]; omega
  ·simp only [List.length_append, List.length_cons, List.length_nil] at hm
   simp only
   by_cases e : m < told.length
   ·obtain ⟨i', q1, q2, q3, q4, q5⟩ := at_ m e
    rw [getD_app_l e, getD_app_l (by omega), getD_app_l (by omega)]
    refine ⟨i', q1, q2, ?_, ?_, fun hb => ?_⟩
    ·rw [g1]; split
     ·rename_i e2; subst e2; omega
     ·exact q3
    ·rw [g1, g2, q4]
     by_cases e2 : i = i'
     ·subst e2
      rw [if_pos rfl, if_pos rfl]
      exact ⟨fun q => by (rw [hfree] at q; exact absurd q.1 (by simp)), fun q => by (have := q.2; omega)⟩
     ·rw [if_neg e2, if_neg e2]
    ·have := q4.1 hb
     have hne : i ≠ i' := fun e2 => by subst e2; rw [hfree] at this; exact absurd this.1 (by simp)
     rw [g3, if_neg hne]; exact q5 hb
   ·have : m = told.length := by omega
    subst this
    have e1 : (told ++ [((i : Int), t.1.1.getD i 0 + 1)]).getD told.length (0, 0) = ((i : Int), t.1.1.getD i 0 + 1) := by rw [getD_app_r (by omega), Nat.sub_self]; rfl
    have e2 : (has ++ [true]).getD told.length false = true := by rw [getD_app_r (by omega), lh, Nat.sub_self]; rfl
    have e3 : (kind ++ [c]).getD told.length 0 = c := by rw [getD_app_r (by omega), lk, Nat.sub_self]; rfl
    rw [e1, e2, e3]
    refine ⟨i, hi, rfl, ?_, ?_, fun _ => ?_⟩
    ·rw [g1, if_pos rfl]; exact Int.le_refl _
    ·rw [g1, g2, if_pos rfl, if_pos rfl]; exact ⟨fun _ => ⟨rfl, rfl⟩, fun _ => rfl⟩
    ·rw [g3, if_pos rfl, ek]
  ·simp only [List.length_append, List.length_cons, List.length_nil] at hm hm'
   by_cases e1 : m < told.length
   ·by_cases e2 : m' < told.length
    ·rw [getD_app_l e1, getD_app_l e2] at e; exact nod m m' e1 e2 e
    ·have : m' = told.length := by omega
     subst this
     rw [getD_app_l e1, getD_app_r (by omega), Nat.sub_self] at e
     exact absurd e (hnew m e1)
   ·have : m = told.length := by omega
    subst this
    by_cases e2 : m' < told.length
    ·rw [getD_app_l e2, getD_app_r (by omega), Nat.sub_self] at e
     exact absurd e.symm (hnew m' e2)
    ·omega
theorem drop_JH {t : Tb} {told : List (Int × Int)} {has : List Bool} {kind : List Int} {n m : Nat} (h : JH t told has kind n) (hm : m < told.length) : decide (findV t (told.getD m (0, 0)) = true ∧ (rd t.2 (told.getD m (0, 0)).1 th0).1 ≠ 1) = has.getD m false ∧ JH (dropV t (told.getD m (0, 0))) told (has.set m false) kind n := by
 have hf := find_has h hm
 obtain ⟨sm, l1, l2, l3, lh, lk, ln, is_, kd, gen, at_, nod⟩ := h
 obtain ⟨i, q1, q2, q3, q4, q5⟩ := at_ m hm
 have hk1 := kd i q1
 have hset : ∀ m', (has.set m false).getD m' false = if m = m' then false else has.getD m' false := fun m' => by
  rw [set_get]; by_cases e : m = m'
  ·subst e; rw [if_pos ⟨rfl, by omega⟩, if_pos rfl]
  ·rw [if_neg (fun q => e q.1), if_neg e]
 refine ⟨?_, ?_⟩
 ·rw [hf, q2, rd_nat]
  cases hb : has.getD m false with
  | false => exact decide_eq_false (fun q => by (cases q.1))
  | true => exact decide_eq_true ⟨rfl, hk1⟩
 ·unfold dropV
  rw [hf, q2, rd_nat]
  cases hb : has.getD m false with
  | false =>
   rw [if_neg (fun q => by (cases q.1))]
   refine ⟨sm, l1, l2, l3, by rw [List.length_set]; exact lh, lk, ln, is_, kd, gen, fun m' hm' => ?_, nod⟩
   obtain ⟨i', p1, p2, p3, p4, p5⟩ := at_ m' hm'
   refine ⟨i', p1, p2, p3, ?_, fun e => ?_⟩
   ·rw [hset]; split
    ·rename_i e; subst e; rw [← p4, hb]
    ·exact p4
   ·rw [hset] at e; split at e
    ·cases e
    ·exact p5 e
  | true =>
   rw [if_pos ⟨rfl, hk1⟩]
   have hti := q4.1 hb
   have g2 : ∀ a, (upd t.1.2 (i : Int) false).getD a false = if i = a then false else t.1.2.getD a false := fun a => by
    rw [upd_nat, set_get]; by_cases e : i = a
    ·subst e; rw [if_pos ⟨rfl, by omega⟩, if_pos rfl]
    ·rw [if_neg (fun q => e q.1), if_neg e]
   have g3 : ∀ a, (upd t.2 (i : Int) th0).getD a th0 = if i = a then th0 else t.2.getD a th0 := fun a => by
    rw [upd_nat, set_get]; by_cases e : i = a
    ·subst e; rw [if_pos ⟨rfl, by omega⟩, if_pos rfl]
    ·rw [if_neg (fun q => e q.1), if_neg e]
   refine ⟨⟨⟨by simp only; omega, by simp only; rw [upd_len]; omega, by simp only; rw [upd_len]; omega⟩, fun x hx => ?_⟩, l1, by simp only; rw [upd_len]; exact l2, by simp only; rw [upd_len]; exact l3, by rw [List.length_set]; exact lh, lk, ln, fun a ha => ?_, fun a ha => ?_, gen, fun m' hm' => ?_, nod⟩
   ·rcases List.mem_or_eq_of_mem_set hx with q | q
    ·exact sm.2 x q
    ·rw [q]; exact SmT_0
   ·simp only; rw [g2, g3]
    by_cases e : i = a
    ·rw [if_pos e, if_pos e]; exact ⟨fun q => by (cases q), fun q => absurd rfl q⟩
    ·rw [if_neg e, if_neg e]; exact is_ a ha
   ·simp only; rw [g3]
    by_cases e : i = a
    ·rw [if_pos e]; decide
    ·rw [if_neg e]; exact kd a ha
   ·obtain ⟨i', p1, p2, p3, p4, p5⟩ := at_ m' hm'
    refine ⟨i', p1, p2, p3, ?_, fun e => ?_⟩
    ·simp only; rw [hset, g2]
     by_cases e : m = m'
     ·subst e
      have : i = i' := by omega
      rw [if_pos rfl, if_pos this]; exact ⟨fun q => by (cases q), fun q => by (cases q.1)⟩
     ·rw [if_neg e, p4]
      by_cases e2 : i = i'
      ·subst e2
       rw [if_pos rfl]
       refine ⟨fun q => ?_, fun q => by (cases q.1)⟩
       exfalso; apply e
       exact nod m m' hm hm' (Prod.ext (by rw [q2, p2]) (by rw [← hti.2, q.2]))
      ·rw [if_neg e2]
    ·rw [hset] at e
     split at e
     ·cases e
     ·rename_i hne
      simp only; rw [g3]
      split
      ·rename_i e2
       subst e2
       exfalso; apply hne
       have := p4.1 e
       exact nod m m' hm hm' (Prod.ext (by rw [q2, p2]) (by rw [← hti.2, this.2]))
      ·exact p5 e
theorem L9_17_eq {k : Nat} (hk : 1000 ≤ k) {g : List (Int × Int) → List Int → List Bool → List Th → List (Int × Int) → List Bool → List Int → Int → Option ((Bool × Unit) × Unit)} {l : List (Int × Int)} {t u : Tb} {told : List (Int × Int)} {has : List Bool} {kind : List Int} {n ii : Nat} {c : Int} {h : Int × Int} (hnew : ∀ m, m < told.length → told.getD m (0, 0) ≠ h) (hJ : JH u (told ++ [h]) (has ++ [true]) (kind ++ [c]) n) (hn : n ≤ 100) (hi : ii ≤ 100) (hh : has.length = told.length) (hkl : kind.length = told.length) (j : Nat) (hj : told.length < j) :
  L9_17 k g j l t.1.1 t.1.2 t.2 told has kind (ii : Int) c u.1.1 u.1.2 u.2 h.1 h.2 0 = g l u.1.1 u.1.2 u.2 (told ++ [h]) (has ++ [true]) (kind ++ [c]) ((ii + 1 : Nat) : Int) := by
 have hln := hJ.ln
 simp only [List.length_append, List.length_cons, List.length_nil] at hln
 have r := anyN (L := fun j m => L9_17 k g j l t.1.1 t.1.2 t.2 told has kind (ii : Int) c u.1.1 u.1.2 u.2 h.1 h.2 m) (n := told.length) (fun _ => false) none (g l u.1.1 u.1.2 u.2 (told ++ [h]) (has ++ [true]) (kind ++ [c]) ((ii + 1 : Nat) : Int)) (fun j m hm => by
  show L9_17 k g (j + 1) l t.1.1 t.1.2 t.2 told has kind (ii : Int) c u.1.1 u.1.2 u.2 h.1 h.2 (m : Int) = L9_17 k g j l t.1.1 t.1.2 t.2 told has kind (ii : Int) c u.1.1 u.1.2 u.2 h.1 h.2 ((m + 1 : Nat) : Int)
  have e0 : ((h.1, h.2) : Int × Int) = h := rfl
  have hb : beqD (.pair (.int .i64) (.int .i64)) (rd told (m : Int) (0, 0)) (h.1, h.2) = false := by
   rw [← Bool.not_eq_true]
   intro q
   exact hnew m hm ((beqD_HT _ _).1 q)
  rw [L9_17_s, l9_17, bif_t (by omega), ix_nat hm, hb, cond_false, w64_nat (by omega)]) (fun j => by
  show L9_17 k g (j + 1) l t.1.1 t.1.2 t.2 told has kind (ii : Int) c u.1.1 u.1.2 u.2 h.1 h.2 (told.length : Int) = _
  rw [L9_17_s, l9_17, bif_f (by omega), ap_ok (by simp only [List.length_cons, List.length_nil]; omega), ap_ok (by simp only [List.length_cons, List.length_nil]; omega), ap_ok (by simp only [List.length_cons, List.length_nil]; omega)]
  exact L9_29_eq hk hJ hn hi k (by simp only [List.length_append, List.length_cons, List.length_nil]; omega)) told.length 0 j (by omega) hj
 rw [(anyF_none _ _ _).2 (fun _ _ _ => rfl), cond_false] at r
 exact r
theorem JH_more {t : Tb} {told : List (Int × Int)} {has : List Bool} {kind : List Int} {n : Nat} (h : JH t told has kind n) : JH t told has kind (n + 1) :=
 ⟨h.sm, h.l1, h.l2, h.l3, h.lh, h.lk, by have := h.ln; omega, h.is_, h.kd, fun i hi => by have := h.gen i hi; omega, h.at_, h.nod⟩
theorem L9_10_eq {k : Nat} (hk : 1000 ≤ k) {l : List (Int × Int)} (hl : l.length ≤ 60) (hb : ∀ x ∈ l, (0 ≤ x.1 ∧ x.1 ≤ 255) ∧ 0 ≤ x.2 ∧ x.2 ≤ 255) : ∀ (m i j : Nat) (t : Tb) (told : List (Int × Int)) (has : List Bool) (kind : List Int), i + m = l.length → m < j → JH t told has kind i →
  L9_10 k j l t.1.1 t.1.2 t.2 told has kind (i : Int) = some ((true, ()), ())
 | 0, i, j, t, told, has, kind, h, hj, hJ => by
  obtain ⟨j', rfl⟩ : ∃ j', j = j' + 1 := ⟨j - 1, by omega⟩
  rw [L9_10_s, l9_10, bif_f (by omega)]
 | m + 1, i, j, t, told, has, kind, h, hj, hJ => by
  obtain ⟨j', rfl⟩ : ∃ j', j = j' + 1 := ⟨j - 1, by omega⟩
  have hx := hb _ (getD_mem (z := (0, 0)) (l := l) (i := i) (by omega))
  have ih := L9_10_eq hk hl hb m (i + 1) j'
  have e0 : (((t.1.1, t.1.2), t.2) : Tb) = t := rfl
  have hln := hJ.ln
  have q1 := Int.tmod_nonneg 2 hx.2.1
  have q2 := Int.tmod_lt_of_pos (l.getD i (0, 0)).2 (show (0 : Int) < 2 by omega)
  have hw : IntKind.i64.wrap (2 + IntKind.i64.wrap (Int.tmod (l.getD i (0, 0)).2 2)) = 2 + Int.tmod (l.getD i (0, 0)).2 2 := by rw [w64 (n := Int.tmod (l.getD i (0, 0)).2 2) (by omega) (by omega), w64 (by omega) (by omega)]
  have hc : (2 + Int.tmod (l.getD i (0, 0)).2 2) = 2 ∨ (2 + Int.tmod (l.getD i (0, 0)).2 2) = 3 := by omega
  have mk : (S21 k t (2 + Int.tmod (l.getD i (0, 0)).2 2)).bind (fun q => bif q.1.2.2.1 then
    L9_17 k (fun a b c d e f g h => L9_10 k j' a b c d e f g h) k l t.1.1 t.1.2 t.2 told has kind (i : Int) (2 + Int.tmod (l.getD i (0, 0)).2 2) q.1.1.1.1 q.1.1.1.2 q.1.1.2 q.1.2.1.1 q.1.2.1.2 0
   else L9_29 k (fun a b c d e f g h => L9_10 k j' a b c d e f g h) k l q.1.1.1.1 q.1.1.1.2 q.1.1.2 told has kind (i : Int) 0) = some ((true, ()), ()) := by
   rw [S21_eq hk hJ.sm (by omega), Option.bind_some]
   simp only
   rcases make_JH (k := k) hc (by omega) hJ with ⟨h1, h2⟩ | ⟨h1, h2, h3⟩
   ·rw [h1, cond_false, h2]
    exact (L9_29_eq hk hJ (by omega) (by omega) k (by omega)).trans (ih t told has kind (by omega) (by omega) (JH_more hJ))
   ·rw [h1, cond_true]
    exact (L9_17_eq hk h2 h3 (by omega) (by omega) hJ.lh hJ.lk k (by omega)).trans (ih _ _ _ _ (by omega) (by omega) h3)
  rw [L9_10_s, l9_10, bif_t (by omega), ix_nat (by omega), rd_nat, hw, e0, ix_nat (by omega)]
  cases Int.tmod (l.getD i (0, 0)).1 2 == 0 with
  | true => exact mk
  | false =>
   rw [cond_false]
   cases he : ((told.length : Int) == 0) with
   | true => rw [cond_true]; exact mk
   | false =>
    have hne : told.length ≠ 0 := fun e => by rw [e] at he; cases he
    have p1 := Int.tmod_nonneg (told.length : Int) hx.2.1
    have p2 := Int.tmod_lt_of_pos (l.getD i (0, 0)).2 (show (0 : Int) < (told.length : Int) by omega)
    have hlh := hJ.lh
    obtain ⟨n, hn⟩ : ∃ n : Nat, Int.tmod (l.getD i (0, 0)).2 (told.length : Int) = (n : Int) := ⟨_, (Int.toNat_of_nonneg p1).symm⟩
    obtain ⟨who, hd⟩ := S22_eq hk (h := told.getD n (0, 0)) hJ.sm
    obtain ⟨d1, d2⟩ := drop_JH hJ (m := n) (by omega)
    rw [cond_false, ix_nat (by omega), nz_ok (by omega), w64 (n := (l.getD i (0, 0)).2) (by omega) (by omega), hn, ix_nat (by omega), rd_nat, hd, Option.bind_some, ix_nat (by omega), rd_nat]
    simp only
    rw [d1, beq_self_eq_true, Bool.not_true, cond_false, ix_nat (by omega), upd_nat]
    exact (L9_29_eq hk d2 (by omega) (by omega) k (by omega)).trans (ih _ _ _ _ (by omega) (by omega) (JH_more d2))
theorem JH_new : JH newT [] [] [] 0 := by
 have hz : ∀ i, (newT.2.getD i th0).1 = 0 := fun i => by
  simp only [newT]; rw [List.getD_eq_getElem?_getD, List.getElem?_replicate]; split <;> rfl
 have hf : ∀ i, newT.1.2.getD i false = false := fun i => by
  simp only [newT]; rw [List.getD_eq_getElem?_getD, List.getElem?_replicate]; split <;> rfl
 have hg : ∀ i, newT.1.1.getD i 0 = 0 := fun i => by
  simp only [newT]; rw [List.getD_eq_getElem?_getD, List.getElem?_replicate]; split <;> rfl
 exact ⟨SmB_new, by simp [newT], by simp [newT], by simp [newT], rfl, rfl, by simp, fun i _ => by rw [hf, hz]; simp, fun i _ => by rw [hz]; decide, fun i _ => by rw [hg]; simp, fun m hm => by simp at hm, fun m _ hm => by simp at hm⟩
theorem objHandles_pure {l : List (Int × Int)} (hb : ∀ x ∈ l, (0 ≤ x.1 ∧ x.1 ≤ 255) ∧ 0 ≤ x.2 ∧ x.2 ≤ 255) : S9 1000 l = some ((true, ()), ()) := by
 unfold S9
 rw [S19_eq]
 simp only [Option.bind_some, Bool.not_true, cond_false]
 by_cases h1 : (l.length : Int) > 60
 ·rw [bif_t h1]
 rw [bif_f h1, S20_eq, Option.bind_some]
 exact L9_10_eq (by omega) (by omega) hb l.length 0 1000 newT [] [] [] (by omega) (by omega) JH_new
theorem objHandles_law {e : TypeId} (l : List (Int × Int)) (hl : Ty.fine (.sl e (.pair (.int .u8) (.int .u8))) l) : ∃ k, S9 k l = some ((true, ()), ()) := ⟨1000, objHandles_pure (fun x hx => ⟨wf_u8' (hl.2 x hx).1, wf_u8' (hl.2 x hx).2⟩)⟩
end Go.Proofs.Ytnlfdfjkgaanjaa.Ab
