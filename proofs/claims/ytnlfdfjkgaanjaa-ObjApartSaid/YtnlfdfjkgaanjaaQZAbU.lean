import Derived.Test.YtnlfdfjkgaanjaaAbPure
import Derived.Test.YtnlfdfjkgaanjaaAbU0
import Derived.Test.YtnlfdfjkgaanjaaAbU1
import Derived.Test.YtnlfdfjkgaanjaaAbU2
import Derived.Test.YtnlfdfjkgaanjaaAbOpen
import Derived.KernelRfl
/- The plain law, and what it hangs on. -/
/- Small laws of lists, of loops with a counter, of searches, of arrays as lists. -/
namespace Go.Proofs.Ytnlfdfjkgaanjaa.Ab
open Go.RowKit
set_option linter.unusedSimpArgs false
set_option linter.unusedVariables false
section
variable {σ R α : Type}
theorem getD_in {l : List α} {n : Nat} {z : α} (h : n < l.length) : l.getD n z = l[n] := by
 simp [List.getD_eq_getElem?_getD, List.getElem?_eq_getElem h]
theorem set_get {l : List α} {x y : Nat} {v z : α} : (l.set x v).getD y z = if x = y ∧ y < l.length then v else l.getD y z := by
 simp only [List.getD_eq_getElem?_getD, List.getElem?_set]
 by_cases h : x = y
 ·subst h
  by_cases h2 : x < l.length
  ·simp [h2]
  ·simp [h2]
 ·simp [h]
theorem getD_app_l {u w : List α} {n : Nat} {z : α} (h : n < u.length) : (u ++ w).getD n z = u.getD n z := by
 simp [List.getD_eq_getElem?_getD, List.getElem?_append_left h]
theorem getD_app_r {u w : List α} {n : Nat} {z : α} (h : u.length ≤ n) : (u ++ w).getD n z = w.getD (n - u.length) z := by
 simp [List.getD_eq_getElem?_getD, List.getElem?_append_right h]
theorem drop_cons {l : List α} {i : Nat} (z : α) (h : i < l.length) : l.drop i = l.getD i z :: l.drop (i + 1) := by
 rw [List.drop_eq_getElem_cons h, getD_in h]
theorem drop_nil {l : List α} {i : Nat} (h : i = l.length) : l.drop i = [] := List.drop_eq_nil_of_le (by omega)
theorem getD_mem {l : List α} {i : Nat} {z : α} (h : i < l.length) : l.getD i z ∈ l := by rw [getD_in h]; exact List.getElem_mem h
theorem mem_getD {l : List α} {x : α} (z : α) (h : x ∈ l) : ∃ i, i < l.length ∧ l.getD i z = x := by
 obtain ⟨i, hi, rfl⟩ := List.getElem_of_mem h
 exact ⟨i, hi, getD_in hi⟩
def goF (f : Nat → σ → σ) : Nat → Nat → σ → σ
 | 0, _, s => s
 | m + 1, i, s => goF f m (i + 1) (f i s)
theorem loopF {L : Nat → σ → Int → Option R} {n : Nat} (inv : Nat → σ → Prop) (f : Nat → σ → σ) (fin : σ → Option R)
  (hs : ∀ j i s, i < n → inv i s → L (j + 1) s (i : Int) = L j (f i s) ((i + 1 : Nat) : Int))
  (hi : ∀ i s, i < n → inv i s → inv (i + 1) (f i s))
  (he : ∀ j s, inv n s → L (j + 1) s (n : Int) = fin s) :
  ∀ (m i j : Nat) (s : σ), i + m = n → m < j → inv i s → L j s i = fin (goF f m i s)
 | 0, i, j, s, h, hj, hv => by
  obtain ⟨j', rfl⟩ : ∃ j', j = j' + 1 := ⟨j - 1, by omega⟩
  have : i = n := by omega
  subst this; exact he j' s hv
 | m + 1, i, j, s, h, hj, hv => by
  obtain ⟨j', rfl⟩ : ∃ j', j = j' + 1 := ⟨j - 1, by omega⟩
  rw [hs j' i s (by omega) hv, goF]
  exact loopF inv f fin hs hi he m (i + 1) j' _ (by omega) (by omega) (hi i s (by omega) hv)
theorem goF_inv {inv : Nat → σ → Prop} {f : Nat → σ → σ} {n : Nat} (hi : ∀ i s, i < n → inv i s → inv (i + 1) (f i s)) : ∀ (m i : Nat) (s : σ), i + m = n → inv i s → inv n (goF f m i s)
 | 0, i, s, h, hv => by
  have : i = n := by omega
  subst this; exact hv
 | m + 1, i, s, h, hv => goF_inv hi m (i + 1) _ (by omega) (hi i s (by omega) hv)
def idxI (f : α → Bool) (xs : List α) : Int := match xs.findIdx? f with | some n => (n : Int) | none => -1
theorem idx_gen (L : Nat → Int → Option ((Int × Unit) × Unit)) (xs : List α) (z : α) (f : α → Bool)
  (hs : ∀ (j n : Nat), n < xs.length → L (j + 1) (n : Int) = bif f (xs.getD n z) then some (((n : Int), ()), ()) else L j ((n + 1 : Nat) : Int))
  (he : ∀ j, L (j + 1) (xs.length : Int) = some ((-1, ()), ())) : ∀ (m i j : Nat), i + m = xs.length → m < j →
   L j i = some (((match (xs.drop i).findIdx? f with | some n => ((i + n : Nat) : Int) | none => -1), ()), ())
 | 0, i, j, h, hj => by
  obtain ⟨j', rfl⟩ : ∃ j', j = j' + 1 := ⟨j - 1, by omega⟩
  have : i = xs.length := by omega
  subst this; rw [he, List.drop_length]; rfl
 | m + 1, i, j, h, hj => by
  obtain ⟨j', rfl⟩ : ∃ j', j = j' + 1 := ⟨j - 1, by omega⟩
  have hlt : i < xs.length := by omega
  rw [hs j' i hlt, drop_cons z hlt, List.findIdx?_cons, idx_gen L xs z f hs he m (i + 1) j' (by omega) (by omega)]
  cases f (xs.getD i z) with
  | true => simp
  | false =>
   simp only [cond_false, Bool.false_eq_true, if_false]
   cases (xs.drop (i + 1)).findIdx? f with
   | none => rfl
   | some n => simp only [Option.map_some]; congr 4; omega
theorem idx_all (L : Nat → Int → Option ((Int × Unit) × Unit)) (xs : List α) (z : α) (f : α → Bool)
  (hs : ∀ (j n : Nat), n < xs.length → L (j + 1) (n : Int) = bif f (xs.getD n z) then some (((n : Int), ()), ()) else L j ((n + 1 : Nat) : Int))
  (he : ∀ j, L (j + 1) (xs.length : Int) = some ((-1, ()), ())) (j : Nat) (hj : xs.length < j) : L j 0 = some ((idxI f xs, ()), ()) := by
 have := idx_gen L xs z f hs he xs.length 0 j (by omega) hj
 rw [List.drop_zero] at this
 simpa [idxI] using this
def anyF (f : Nat → Bool) : Nat → Nat → Bool
 | 0, _ => false
 | m + 1, i => f i || anyF f m (i + 1)
theorem anyF_iff (f : Nat → Bool) : ∀ (m i : Nat), anyF f m i = true ↔ ∃ n, i ≤ n ∧ n < i + m ∧ f n = true
 | 0, i => ⟨fun h => by simp [anyF] at h, fun ⟨n, h1, h2, _⟩ => by omega⟩
 | m + 1, i => by
  rw [anyF, Bool.or_eq_true, anyF_iff f m (i + 1)]
  constructor
  ·rintro (h | ⟨n, h1, h2, h3⟩)
   ·exact ⟨i, by omega, by omega, h⟩
   ·exact ⟨n, by omega, by omega, h3⟩
  ·rintro ⟨n, h1, h2, h3⟩
   by_cases e : n = i
   ·subst e; exact .inl h3
   ·exact .inr ⟨n, by omega, by omega, h3⟩
theorem anyF_none (f : Nat → Bool) (m i : Nat) : anyF f m i = false ↔ ∀ n, i ≤ n → n < i + m → f n = false := by
 constructor
 ·intro h n h1 h2
  cases hf : f n with
  | false => rfl
  | true => rw [(anyF_iff f m i).2 ⟨n, h1, h2, hf⟩] at h; cases h
 ·intro h
  cases ha : anyF f m i with
  | false => rfl
  | true => obtain ⟨n, h1, h2, h3⟩ := (anyF_iff f m i).1 ha; rw [h n h1 h2] at h3; cases h3
theorem anyN {L : Nat → Int → Option R} {n : Nat} (f : Nat → Bool) (yes no : Option R)
  (hs : ∀ (j i : Nat), i < n → L (j + 1) (i : Int) = bif f i then yes else L j ((i + 1 : Nat) : Int))
  (he : ∀ j, L (j + 1) (n : Int) = no) : ∀ (m i j : Nat), i + m = n → m < j → L j i = bif anyF f m i then yes else no
 | 0, i, j, h, hj => by
  obtain ⟨j', rfl⟩ : ∃ j', j = j' + 1 := ⟨j - 1, by omega⟩
  have : i = n := by omega
  subst this; rw [he]; rfl
 | m + 1, i, j, h, hj => by
  obtain ⟨j', rfl⟩ : ∃ j', j = j' + 1 := ⟨j - 1, by omega⟩
  rw [hs j' i (by omega), anyF, anyN f yes no hs he m (i + 1) j' (by omega) (by omega)]
  cases f i <;> rfl
end
end Go.Proofs.Ytnlfdfjkgaanjaa.Ab

/- Things and tables: what their functions come to. -/
namespace Go.Proofs.Ytnlfdfjkgaanjaa.Ab
open Go.RowKit
set_option linter.unusedSimpArgs false
set_option linter.unusedVariables false
abbrev Th : Type := Int × (Int × Int) × (Int × Int) × (List Int × List Int) × (Int × List (Int × Int)) × Int
abbrev th0 : Th := (0, (0, 0), (0, 0), ([], []), (0, []), 0)
abbrev Tb : Type := (List Int × List Bool) × List Th
def SmT (x : Th) : Prop := x.2.2.2.1.1.length ≤ 100 ∧ x.2.2.2.1.2.length ≤ 100 ∧ x.2.2.2.2.1.2.length ≤ 100
def SmB (t : Tb) : Prop := (t.1.1.length ≤ 100 ∧ t.1.2.length ≤ 100 ∧ t.2.length ≤ 100) ∧ ∀ x ∈ t.2, SmT x
theorem S53_eq {k : Nat} {x : Th} (h : SmT x) : S53 k x = some ((x, ()), ()) := by
 obtain ⟨h1, h2, h3⟩ := h
 unfold S53
 simp only [S78, S79, S87, S88]
 rw [clone_eq (by omega), Option.bind_some, clone_eq (by omega), Option.bind_some, clone_eq (by omega), Option.bind_some]
theorem S45_eq {k : Nat} (hk : 1000 ≤ k) {t : Tb} (h : SmB t) : S45 k t = some ((t, ()), ()) := by
 obtain ⟨⟨h1, h2, h3⟩, h4⟩ := h
 unfold S45
 simp only [S78, S79, S87, S88]
 rw [clone_eq (by omega), Option.bind_some, clone_eq (by omega), Option.bind_some]
 have := loopF (L := fun j (out : List Th) i => L45_3 k j t.1.1 t.1.2 out t.2 (t.2.length : Int) i) (n := t.2.length) (fun i out => out = t.2.take i)
  (fun i out => out ++ [t.2.getD i th0]) (fun out => some ((((t.1.1, t.1.2), out), ()), ()))
  (fun j i out hi hv => by
   show L45_3 k (j + 1) t.1.1 t.1.2 out t.2 (t.2.length : Int) (i : Int) = _
   have hl : out.length ≤ 100 := by rw [hv, List.length_take]; omega
   rw [L45_3_s, l45_3, bif_t (by omega), ix_nat hi, rd_nat, S53_eq (h4 _ (getD_mem hi)), Option.bind_some, ap_ok (by simp only [List.length_cons, List.length_nil]; omega), w64_nat (by omega)])
  (fun i out hi hv => by rw [hv, List.take_add_one, getD_in hi, List.getElem?_eq_getElem hi]; rfl)
  (fun j out hv => by
   show L45_3 k (j + 1) t.1.1 t.1.2 out t.2 (t.2.length : Int) (t.2.length : Int) = _
   rw [L45_3_s, l45_3, bif_f (by omega)]) t.2.length 0 k [] (by omega) (by omega) (by simp)
 have hg := goF_inv (inv := fun i (out : List Th) => out = t.2.take i) (f := fun i out => out ++ [t.2.getD i th0]) (n := t.2.length) (fun i out hi hv => by rw [hv, List.take_add_one, getD_in hi, List.getElem?_eq_getElem hi]; rfl) t.2.length 0 [] (by omega) (by simp)
 refine Eq.trans this ?_
 rw [hg, List.take_length]
/-! ### seals -/
def sumL (x : Th) : List Int := ([x.1, x.2.1.1, x.2.1.2, x.2.2.1.1, x.2.2.1.2, (x.2.2.2.1.1.length : Int)] ++ x.2.2.2.1.1 ++ [(x.2.2.2.1.2.length : Int)] ++ x.2.2.2.1.2 ++ [IntKind.i64.wrap x.2.2.2.2.1.1]) ++ x.2.2.2.2.1.2.flatMap (fun w => [w.1, IntKind.i64.wrap w.2])
theorem flat_len2 (l : List (Int × Int)) : (l.flatMap (fun w => [w.1, IntKind.i64.wrap w.2])).length = 2 * l.length := by
 induction l with
 | nil => rfl
 | cons x r ih => simp only [List.flatMap_cons, List.length_append, ih, List.length_cons, List.length_nil]; omega
theorem L54_11_eq {k : Nat} {ws : List (Int × Int)} (hw : ws.length ≤ 100) : ∀ (m i j : Nat) (l : List Int), i + m = ws.length → m < j → l.length ≤ 1002 + 2 * i → L54_11 k j l ws (ws.length : Int) (i : Int) = S89 k (l ++ (ws.drop i).flatMap (fun w => [w.1, IntKind.i64.wrap w.2]))
 | 0, i, j, l, h, hj, hl => by
  obtain ⟨j', rfl⟩ : ∃ j', j = j' + 1 := ⟨j - 1, by omega⟩
  rw [L54_11_s, l54_11, bif_f (by omega), drop_nil (by omega), List.flatMap_nil, List.append_nil]
  cases S89 k l <;> rfl
 | m + 1, i, j, l, h, hj, hl => by
  obtain ⟨j', rfl⟩ : ∃ j', j = j' + 1 := ⟨j - 1, by omega⟩
  rw [L54_11_s, l54_11, bif_t (by omega), ix_nat (by omega), rd_nat, ap_ok (by simp only [List.length_cons, List.length_nil]; omega), w64_nat (by omega), drop_cons (0, 0) (show i < ws.length by omega), List.flatMap_cons, ← List.append_assoc]
  exact L54_11_eq hw m (i + 1) j' _ (by omega) (by omega) (by simp only [List.length_append, List.length_cons, List.length_nil]; omega)
theorem L54_5_eq {k : Nat} (hk : 1000 ≤ k) {x1 x2 x3 x4 x5 x8 x10 : Int} {x6 x7 : List Int} {ws : List (Int × Int)} {tw : List Int} (hw : ws.length ≤ 100) (ht : tw.length ≤ 100) : ∀ (m i j : Nat) (l : List Int), i + m = tw.length → m < j → l.length ≤ 500 + i →
  L54_5 k j x1 x2 x3 x4 x5 x6 x7 x8 ws x10 l tw (tw.length : Int) (i : Int) = S89 k (l ++ tw.drop i ++ [IntKind.i64.wrap x8] ++ ws.flatMap (fun w => [w.1, IntKind.i64.wrap w.2]))
 | 0, i, j, l, h, hj, hl => by
  obtain ⟨j', rfl⟩ : ∃ j', j = j' + 1 := ⟨j - 1, by omega⟩
  rw [L54_5_s, l54_5, bif_f (by omega), drop_nil (by omega), List.append_nil, ap_ok (by simp only [List.length_cons, List.length_nil]; omega)]
  have := L54_11_eq (k := k) hw ws.length 0 k (l ++ [IntKind.i64.wrap x8]) (by omega) (by omega) (by simp only [List.length_append, List.length_cons, List.length_nil]; omega)
  rw [List.drop_zero] at this
  exact this
 | m + 1, i, j, l, h, hj, hl => by
  obtain ⟨j', rfl⟩ : ∃ j', j = j' + 1 := ⟨j - 1, by omega⟩
  rw [L54_5_s, l54_5, bif_t (by omega), ix_nat (by omega), rd_nat, ap_ok (by simp only [List.length_cons, List.length_nil]; omega), w64_nat (by omega), L54_5_eq hk hw ht m (i + 1) j' _ (by omega) (by omega) (by simp only [List.length_append, List.length_cons, List.length_nil]; omega), drop_cons 0 (show i < tw.length by omega)]
  simp only [List.append_assoc, List.cons_append, List.nil_append]
theorem S54_list {k : Nat} (hk : 1000 ≤ k) {x : Th} (h : SmT x) : S54 k x = S89 k (sumL x) := by
 obtain ⟨h1, h2, h3⟩ := h
 unfold S54
 rw [ap_ok (by simp only [List.length_cons, List.length_nil]; omega), ap_ok (by simp only [List.length_append, List.length_cons, List.length_nil]; omega)]
 have := L54_5_eq hk (x1 := x.1) (x2 := x.2.1.1) (x3 := x.2.1.2) (x4 := x.2.2.1.1) (x5 := x.2.2.1.2) (x8 := x.2.2.2.2.1.1) (x10 := x.2.2.2.2.2) (x6 := x.2.2.2.1.1) (x7 := x.2.2.2.1.2) h3 h2 x.2.2.2.1.2.length 0 k ([x.1, x.2.1.1, x.2.1.2, x.2.2.1.1, x.2.2.1.2, (x.2.2.2.1.1.length : Int)] ++ x.2.2.2.1.1 ++ [(x.2.2.2.1.2.length : Int)]) (by omega) (by omega) (by simp only [List.length_append, List.length_cons, List.length_nil]; omega)
 rw [List.drop_zero] at this
 exact this
theorem L89_6_some {k : Nat} {g3 : Int → List Int → Int → Int → Option ((Int × Unit) × Unit)} {l : List Int} {n i : Int} : ∀ (m a j : Nat) (h u : Int), a + m = 8 → m < j → ∃ v, L89_6 k g3 j h u (a : Int) l n i = g3 v l n (IntKind.i64.wrap (i + 1))
 | 0, a, j, h, u, ha, hj => by
  obtain ⟨j', rfl⟩ : ∃ j', j = j' + 1 := ⟨j - 1, by omega⟩
  rw [L89_6_s, l89_6, bif_f (by omega)]
  exact ⟨h, rfl⟩
 | m + 1, a, j, h, u, ha, hj => by
  obtain ⟨j', rfl⟩ : ∃ j', j = j' + 1 := ⟨j - 1, by omega⟩
  rw [L89_6_s, l89_6, bif_t (by omega), w64_nat (by omega)]
  exact L89_6_some m (a + 1) j' _ _ (by omega) (by omega)
theorem L89_3_some {k : Nat} (hk : 1000 ≤ k) {l : List Int} (hl : l.length ≤ 100000) : ∀ (m i j : Nat) (h : Int), i + m = l.length → m < j → ∃ v, L89_3 k j h l (l.length : Int) (i : Int) = some ((v, ()), ())
 | 0, i, j, h, ha, hj => by
  obtain ⟨j', rfl⟩ : ∃ j', j = j' + 1 := ⟨j - 1, by omega⟩
  rw [L89_3_s, l89_3, bif_f (by omega)]
  exact ⟨h, rfl⟩
 | m + 1, i, j, h, ha, hj => by
  obtain ⟨j', rfl⟩ : ∃ j', j = j' + 1 := ⟨j - 1, by omega⟩
  rw [L89_3_s, l89_3, bif_t (by omega), ix_nat (by omega)]
  obtain ⟨v, hv⟩ := L89_6_some (k := k) (g3 := fun h t8 t9 t10 => L89_3 k j' h t8 t9 t10) (l := l) (n := (l.length : Int)) (i := (i : Int)) 8 0 k h (IntKind.u64.wrap (rd l (i : Int) 0)) (by omega) (by omega)
  obtain ⟨w, hw⟩ := L89_3_some hk hl m (i + 1) j' v (by omega) (by omega)
  refine ⟨w, Eq.trans hv ?_⟩
  show L89_3 k j' v l (l.length : Int) (IntKind.i64.wrap ((i : Int) + 1)) = _
  rw [w64_nat (by omega)]; exact hw
theorem S89_some {k : Nat} (hk : 1000 ≤ k) {l : List Int} (hl : l.length < k) (hl2 : l.length ≤ 100000) : ∃ v, S89 k l = some ((v, ()), ()) := by
 unfold S89
 exact L89_3_some hk hl2 l.length 0 k _ (by omega) (by omega)
theorem sumL_len {x : Th} (h : SmT x) : (sumL x).length ≤ 500 := by
 obtain ⟨h1, h2, h3⟩ := h
 have := flat_len2 x.2.2.2.2.1.2
 unfold sumL
 simp only [List.length_append, List.length_cons, List.length_nil] at this ⊢
 omega
noncomputable def sumV (k : Nat) (x : Th) : Int := match S89 k (sumL x) with | some q => q.1.1 | none => 0
theorem S54_eq {k : Nat} (hk : 1000 ≤ k) {x : Th} (h : SmT x) : S54 k x = some ((sumV k x, ()), ()) := by
 rw [S54_list hk h]
 have hl := sumL_len h
 obtain ⟨v, hv⟩ := S89_some hk (l := sumL x) (by omega) (by omega)
 unfold sumV; rw [hv]
noncomputable def sealT (k : Nat) (x : Th) : Th := (x.1, x.2.1, x.2.2.1, x.2.2.2.1, x.2.2.2.2.1, sumV k x)
theorem S47_eq {k : Nat} (hk : 1000 ≤ k) {x : Th} (h : SmT x) : S47 k x = some ((sealT k x, ()), ()) := by
 unfold S47; rw [S54_eq hk h]; rfl
def isTh (t : Tb) (i : Int) : Bool := decide (0 ≤ i) && (decide (i < (t.2.length : Int)) && (rd t.2 i th0).1 != 0)
theorem S52_eq {k : Nat} {t : Tb} {i : Int} : S52 k t i = some ((isTh t i, ()), ()) := by
 unfold S52 isTh
 by_cases h : 0 ≤ i
 ·rw [bif_t h, decide_eq_true h]
  by_cases h2 : i < (t.2.length : Int)
  ·rw [bif_t h2, decide_eq_true h2, ix_ok h h2]; rfl
  ·rw [bif_f h2, decide_eq_false h2]; rfl
 ·rw [bif_f h, decide_eq_false h]; rfl
end Go.Proofs.Ytnlfdfjkgaanjaa.Ab

/- Tables: what is put, what is turned, what begins anew. -/
namespace Go.Proofs.Ytnlfdfjkgaanjaa.Ab
open Go.RowKit
set_option linter.unusedSimpArgs false
set_option linter.unusedVariables false
noncomputable def putT (k : Nat) (w x : Th) : Th :=
 if w.2.2.2.2.2 = sumV k w then sealT k (w.1, w.2.1, x.2.2) else ((sealT k (w.1, w.2.1, x.2.2)).1, (sealT k (w.1, w.2.1, x.2.2)).2.1, (sealT k (w.1, w.2.1, x.2.2)).2.2.1, (sealT k (w.1, w.2.1, x.2.2)).2.2.2.1, (sealT k (w.1, w.2.1, x.2.2)).2.2.2.2.1, inot .u32 (sealT k (w.1, w.2.1, x.2.2)).2.2.2.2.2)
noncomputable def putV (k : Nat) (t : Tb) (i : Int) (x : Th) : Tb := if isTh t i = true then (t.1, upd t.2 i (putT k (rd t.2 i th0) x)) else t
theorem isTh_in {t : Tb} {i : Int} (h : isTh t i = true) : 0 ≤ i ∧ i < (t.2.length : Int) ∧ (rd t.2 i th0).1 ≠ 0 := by
 unfold isTh at h
 simp only [Bool.and_eq_true, decide_eq_true_eq, bne_iff_ne, ne_eq] at h
 exact ⟨h.1, h.2.1, h.2.2⟩
theorem rd_mem {t : List Th} {i : Int} (h0 : 0 ≤ i) (h1 : i < (t.length : Int)) : rd t i th0 ∈ t := by
 obtain ⟨n, rfl⟩ : ∃ n : Nat, i = (n : Int) := ⟨i.toNat, by omega⟩
 rw [rd_nat]; exact getD_mem (by omega)
theorem S26_eq {k : Nat} (hk : 1000 ≤ k) {t : Tb} {i : Int} {x : Th} (ht : SmB t) (hx : SmT x) : S26 k t i x = some ((putV k t i x, ()), ()) := by
 unfold S26 putV
 rw [S45_eq hk ht, Option.bind_some, S52_eq, Option.bind_some]
 cases h : isTh t i with
 | false => rfl
 | true =>
  obtain ⟨h0, h1, h2⟩ := isTh_in h
  have hw : SmT (rd t.2 i th0) := ht.2 _ (rd_mem h0 h1)
  simp only [Bool.not_true, cond_false, if_true]
  rw [ix_ok h0 h1, S53_eq (x := ((rd t.2 i th0).1, (rd t.2 i th0).2.1, x.2.2)) hx, Option.bind_some]
  simp only
  rw [S47_eq hk (x := ((rd t.2 i th0).1, (rd t.2 i th0).2.1, x.2.2)) hx, Option.bind_some, S54_eq hk hw, Option.bind_some, ix_ok h0 h1, ix_ok h0 h1]
  unfold putT
  by_cases e : (rd t.2 i th0).2.2.2.2.2 = sumV k (rd t.2 i th0)
  ·rw [if_pos e, show ((rd t.2 i th0).2.2.2.2.2 != sumV k (rd t.2 i th0)) = false by simpa using e, cond_false]
  ·rw [if_neg e, show ((rd t.2 i th0).2.2.2.2.2 != sumV k (rd t.2 i th0)) = true by simpa using e, cond_true]
def turnT (x : Th) : Th := (x.1, x.2.1, x.2.2.1, x.2.2.2.1, x.2.2.2.2.1, inot .u32 x.2.2.2.2.2)
def turnV (t : Tb) (i : Int) : Tb := if isTh t i = true then (t.1, upd t.2 i (turnT (rd t.2 i th0))) else t
theorem S24_eq {k : Nat} (hk : 1000 ≤ k) {t : Tb} {i : Int} (ht : SmB t) : S24 k t i = some ((turnV t i, isTh t i, ()), ()) := by
 unfold S24 turnV
 rw [S45_eq hk ht, Option.bind_some, S52_eq, Option.bind_some]
 cases h : isTh t i with
 | false => rfl
 | true =>
  obtain ⟨h0, h1, h2⟩ := isTh_in h
  simp only [Bool.not_true, cond_false, if_true]
  rw [ix_ok h0 h1, ix_ok h0 h1]; rfl
/-! ### who waits -/
def waitsT (x : Th) : List Int := x.2.2.2.1.2 ++ x.2.2.2.2.1.2.map (·.1)
theorem S84_eq {k : Nat} (hk : 1000 ≤ k) {f : Int × List (Int × Int)} (h : f.2.length ≤ 100) : S84 k f = some (((0, []), f.2.map (·.1), ()), ()) := by
 unfold S84
 have := loopF (L := fun j (who : List Int) i => L84_2 k j 0 who f.2 (f.2.length : Int) i) (n := f.2.length) (fun i who => who = (f.2.take i).map (·.1))
  (fun i who => who ++ [(f.2.getD i (0, 0)).1]) (fun who => some ((((0, []), who, ()), ())))
  (fun j i who hi hv => by
   show L84_2 k (j + 1) 0 who f.2 (f.2.length : Int) (i : Int) = _
   have hl : who.length ≤ 100 := by rw [hv, List.length_map, List.length_take]; omega
   rw [L84_2_s, l84_2, bif_t (by omega), ix_nat hi, rd_nat, ap_ok (by simp only [List.length_cons, List.length_nil]; omega), w64_nat (by omega)])
  (fun i who hi hv => by rw [hv, List.take_add_one, getD_in hi, List.getElem?_eq_getElem hi, List.map_append]; rfl)
  (fun j who hv => by
   show L84_2 k (j + 1) 0 who f.2 (f.2.length : Int) (f.2.length : Int) = _
   rw [L84_2_s, l84_2, bif_f (by omega)]) f.2.length 0 k [] (by omega) (by omega) (by simp)
 have hg := goF_inv (inv := fun i (who : List Int) => who = (f.2.take i).map (·.1)) (f := fun i who => who ++ [(f.2.getD i (0, 0)).1]) (n := f.2.length) (fun i who hi hv => by rw [hv, List.take_add_one, getD_in hi, List.getElem?_eq_getElem hi, List.map_append]; rfl) f.2.length 0 [] (by omega) (by simp)
 refine Eq.trans this ?_
 rw [hg, List.take_length]
theorem S83_eq {k : Nat} {b : List Int × List Int} (h : b.2.length ≤ 100) : S83 k b = some ((([], []), b.2, ()), ()) := by
 unfold S83
 simp only [S78, S79, S87, S88]
 rw [clone_eq (by omega)]; rfl
theorem S102_eq {k : Nat} {n : Int} (h0 : 0 ≤ n) (h1 : n ≤ 100000) : S102 k n = some (([], ()), ()) := by
 unfold S102
 rw [bif_f (by omega), w64 (by omega) (by omega)]
 by_cases e : n - 0 > 0
 ·rw [bif_t e]
  unfold az
  rw [if_pos]
  ·dsimp only
   rw [sx_ok (by omega) (by omega) (by omega)]; simp
  ·simp only [Bool.and_eq_true, decide_eq_true_eq, List.length_nil]; omega
 ·rw [bif_f e]
theorem S85_two {k : Nat} (hk : 1000 ≤ k) {a b : List Int} (ha : a.length ≤ 1000) (hb : b.length ≤ 1000) : S85 k [a, b] = some ((a ++ b, ()), ()) := by
 unfold S85
 obtain ⟨k', rfl⟩ : ∃ k', k = k' + 3 := ⟨k - 3, by omega⟩
 have e0 : rd [a, b] 0 [] = a := rfl
 have e1 : rd [a, b] 1 [] = b := rfl
 have w1 : IntKind.i64.wrap (0 + 1) = 1 := rfl
 have w2 : IntKind.i64.wrap (1 + 1) = 2 := rfl
 have hlen : (([a, b] : List (List Int)).length : Int) = 2 := rfl
 rw [hlen, L85_3_s, l85_3, bif_t (by omega), ix_ok (by omega) (by omega), e0, w1, w64 (by omega) (by omega), bif_f (by omega), L85_3_s, l85_3, bif_t (by omega), ix_ok (by omega) (by omega), e1, w2, w64 (by omega) (by omega), bif_f (by omega), L85_3_s, l85_3, bif_f (by omega), S102_eq (by omega) (by omega), Option.bind_some, hlen]
 simp only
 rw [L85_11_s, l85_11, bif_t (by omega), ix_ok (by omega) (by omega), e0, w1, ap_ok (by simp only [List.length_nil]; omega), L85_11_s, l85_11, bif_t (by omega), ix_ok (by omega) (by omega), e1, w2, ap_ok (by simp only [List.nil_append]; omega), L85_11_s, l85_11, bif_f (by omega), List.nil_append]
theorem S50_eq {k : Nat} (hk : 1000 ≤ k) {x : Th} (h : SmT x) : S50 k x = some ((waitsT x, ()), ()) := by
 obtain ⟨h1, h2, h3⟩ := h
 unfold S50 waitsT
 rw [S83_eq h2, Option.bind_some, S84_eq hk h3, Option.bind_some]
 simp only
 rw [S85_two hk (by omega) (by rw [List.length_map]; omega)]; rfl
/-! ### what begins anew -/
noncomputable def trn (k : Nat) (x : Th) : Bool := x.1 != 0 && x.2.2.2.2.2 != sumV k x
noncomputable def frT (k : Nat) (x : Th) : Th := sealT k (x.1, x.2.1, (if x.1 = 1 then x.2.2.1.1 else 0, 0), ([], []), (0, []), 0)
noncomputable def aud (k : Nat) (l : List Th) : Nat → Nat → List Th × List Int × List (List Int) → List Th × List Int × List (List Int)
 | 0, _, s => s
 | m + 1, i, s => aud k l m (i + 1) (if trn k (l.getD i th0) = true then (s.1.set i (frT k (l.getD i th0)), s.2.1 ++ [(i : Int)], s.2.2 ++ [waitsT (l.getD i th0)]) else s)
theorem L28_3_eq {k : Nat} (hk : 1000 ≤ k) {t : Tb} (ht : SmB t) : ∀ (m i j : Nat) (s : List Th × List Int × List (List Int)), i + m = t.2.length → m < j → s.1.length = t.2.length → s.2.1.length ≤ i → s.2.2.length ≤ i →
  L28_3 k j t.1.1 t.1.2 t.2 t.1.1 t.1.2 s.1 s.2.1 s.2.2 t.2 (t.2.length : Int) (i : Int) = some (((t.1, (aud k t.2 m i s).1), (aud k t.2 m i s).2.1, (aud k t.2 m i s).2.2, ()), ())
 | 0, i, j, s, h, hj, h1, h2, h3 => by
  obtain ⟨j', rfl⟩ : ∃ j', j = j' + 1 := ⟨j - 1, by omega⟩
  rw [L28_3_s, l28_3, bif_f (by omega), aud]
 | m + 1, i, j, s, h, hj, h1, h2, h3 => by
  obtain ⟨j', rfl⟩ : ∃ j', j = j' + 1 := ⟨j - 1, by omega⟩
  obtain ⟨⟨hl1, hl2, hl3⟩, hsm⟩ := ht
  have hi : i < t.2.length := by omega
  have hx := hsm _ (getD_mem (z := th0) hi)
  have ih := L28_3_eq hk ⟨⟨hl1, hl2, hl3⟩, hsm⟩ m (i + 1) j'
  have hth : isTh ((t.1.1, t.1.2), t.2) (i : Int) = ((t.2.getD i th0).1 != 0) := by
   unfold isTh; rw [decide_eq_true (show (0 : Int) ≤ (i : Int) by omega), decide_eq_true (show (i : Int) < (t.2.length : Int) by omega), rd_nat]; rfl
  rw [L28_3_s, l28_3, bif_t (by omega), ix_nat hi, S52_eq, Option.bind_some, hth, rd_nat, w64_nat (by omega), aud]
  unfold trn
  cases h0 : (t.2.getD i th0).1 != 0 with
  | false =>
   simp only [Bool.not_false, cond_true, Bool.false_and, Bool.false_eq_true, if_false]
   exact ih s (by omega) (by omega) h1 (by omega) (by omega)
  | true =>
   simp only [Bool.not_true, cond_false, Bool.true_and]
   rw [S54_eq hk hx, Option.bind_some]
   simp only
   by_cases e : (t.2.getD i th0).2.2.2.2.2 = sumV k (t.2.getD i th0)
   ·rw [show ((t.2.getD i th0).2.2.2.2.2 == sumV k (t.2.getD i th0)) = true by simpa using e, cond_true, if_neg (by simpa using e)]
    exact ih s (by omega) (by omega) h1 (by omega) (by omega)
   ·rw [show ((t.2.getD i th0).2.2.2.2.2 == sumV k (t.2.getD i th0)) = false by simpa using e, cond_false, if_pos (by simpa using e)]
    have fin : ∀ y : Th, SmT y → y = (( t.2.getD i th0).1, (t.2.getD i th0).2.1, (if (t.2.getD i th0).1 = 1 then (t.2.getD i th0).2.2.1.1 else 0, 0), ([], []), (0, []), 0) →
      j28_9 k (fun t1 t2 t3 out out1 out2 places who t11 t12 t13 => L28_3 k j' t1 t2 t3 out out1 out2 places who t11 t12 t13) t.1.1 t.1.2 t.2 t.1.1 t.1.2 s.1 s.2.1 s.2.2 (i : Int) (t.2.getD i th0).1 (t.2.getD i th0).2.1.1 (t.2.getD i th0).2.1.2 (t.2.getD i th0).2.2.1.1 (t.2.getD i th0).2.2.1.2 (t.2.getD i th0).2.2.2.1.1 (t.2.getD i th0).2.2.2.1.2 (t.2.getD i th0).2.2.2.2.1.1 (t.2.getD i th0).2.2.2.2.1.2 (t.2.getD i th0).2.2.2.2.2 y.1 y.2.1.1 y.2.1.2 y.2.2.1.1 y.2.2.1.2 y.2.2.2.1.1 y.2.2.2.1.2 y.2.2.2.2.1.1 y.2.2.2.2.1.2 y.2.2.2.2.2 t.2 (t.2.length : Int) (i : Int) =
      some (((t.1, (aud k t.2 m (i + 1) (s.1.set i (frT k (t.2.getD i th0)), s.2.1 ++ [(i : Int)], s.2.2 ++ [waitsT (t.2.getD i th0)])).1), (aud k t.2 m (i + 1) (s.1.set i (frT k (t.2.getD i th0)), s.2.1 ++ [(i : Int)], s.2.2 ++ [waitsT (t.2.getD i th0)])).2.1, (aud k t.2 m (i + 1) (s.1.set i (frT k (t.2.getD i th0)), s.2.1 ++ [(i : Int)], s.2.2 ++ [waitsT (t.2.getD i th0)])).2.2, ()), ()) := fun y hy hye => by
     unfold j28_9
     have e1 : S47 k (y.1, (y.2.1.1, y.2.1.2), (y.2.2.1.1, y.2.2.1.2), (y.2.2.2.1.1, y.2.2.2.1.2), (y.2.2.2.2.1.1, y.2.2.2.2.1.2), y.2.2.2.2.2) = some ((sealT k y, ()), ()) := S47_eq hk hy
     rw [e1, Option.bind_some, ix_nat (by omega), ap_ok (by simp only [List.length_cons, List.length_nil]; omega)]
     have e2 : S50 k ((t.2.getD i th0).1, ((t.2.getD i th0).2.1.1, (t.2.getD i th0).2.1.2), ((t.2.getD i th0).2.2.1.1, (t.2.getD i th0).2.2.1.2), ((t.2.getD i th0).2.2.2.1.1, (t.2.getD i th0).2.2.2.1.2), ((t.2.getD i th0).2.2.2.2.1.1, (t.2.getD i th0).2.2.2.2.1.2), (t.2.getD i th0).2.2.2.2.2) = some ((waitsT (t.2.getD i th0), ()), ()) := S50_eq hk hx
     rw [e2, Option.bind_some, ap_ok (by simp only [List.length_cons, List.length_nil]; omega), w64_nat (by omega), upd_nat]
     have e3 : sealT k y = frT k (t.2.getD i th0) := by rw [hye]; rfl
     simp only
     rw [e3]
     exact ih (s.1.set i (frT k (t.2.getD i th0)), s.2.1 ++ [(i : Int)], s.2.2 ++ [waitsT (t.2.getD i th0)]) (by omega) (by omega) (by simp only [List.length_set]; exact h1) (by simp only [List.length_append, List.length_cons, List.length_nil]; omega) (by simp only [List.length_append, List.length_cons, List.length_nil]; omega)
    unfold S48
    by_cases e1 : (t.2.getD i th0).1 = 1
    ·rw [show ((t.2.getD i th0).1 == 1) = true by rw [e1]; rfl, cond_true, Option.bind_some]
     simp only [cond_true]
     exact fin ((t.2.getD i th0).1, (t.2.getD i th0).2.1, ((t.2.getD i th0).2.2.1.1, 0), ([], []), (0, []), 0) ⟨by simp, by simp, by simp⟩ (by rw [if_pos e1])
    ·rw [show ((t.2.getD i th0).1 == 1) = false by simpa using e1, cond_false, Option.bind_some]
     simp only [cond_false]
     exact fin ((t.2.getD i th0).1, (t.2.getD i th0).2.1, (0, 0), ([], []), (0, []), 0) ⟨by simp, by simp, by simp⟩ (by rw [if_neg e1])
theorem S28_eq {k : Nat} (hk : 1000 ≤ k) {t : Tb} (ht : SmB t) : S28 k t = some (((t.1, (aud k t.2 t.2.length 0 (t.2, [], [])).1), (aud k t.2 t.2.length 0 (t.2, [], [])).2.1, (aud k t.2 t.2.length 0 (t.2, [], [])).2.2, ()), ()) := by
 unfold S28
 rw [S45_eq hk ht, Option.bind_some]
 have := ht.1
 exact L28_3_eq hk ht t.2.length 0 k (t.2, [], []) (by omega) (by omega) rfl (by simp) (by simp)
theorem aud_none {k : Nat} {l : List Th} : ∀ (m i : Nat) (s : List Th × List Int × List (List Int)), (∀ j, i ≤ j → j < i + m → trn k (l.getD j th0) = false) → aud k l m i s = s
 | 0, _, _, _ => rfl
 | m + 1, i, s, h => by
  rw [aud, h i (by omega) (by omega)]
  exact aud_none m (i + 1) s (fun j h1 h2 => h j (by omega) (by omega))
/-! ### the law's own -/
theorem S27_eq {k : Nat} (hk : 1000 ≤ k) {t : Tb} (h : t.2.length ≤ 100) : S27 k t = some ((t, ()), ()) := by
 unfold S27
 have := loopF (L := fun j (out : List Th) i => L27_3 k j t.1.1 t.1.2 t.2 t.1.1 t.1.2 out i) (n := t.2.length) (fun i out => out = t.2.take i)
  (fun i out => out ++ [t.2.getD i th0]) (fun out => some ((((t.1.1, t.1.2), out), ()), ()))
  (fun j i out hi hv => by
   show L27_3 k (j + 1) t.1.1 t.1.2 t.2 t.1.1 t.1.2 out (i : Int) = _
   have hl : out.length ≤ 100 := by rw [hv, List.length_take]; omega
   rw [L27_3_s, l27_3, bif_t (by omega), ix_nat hi, rd_nat, S55, Option.bind_some, ap_ok (by simp only [List.length_cons, List.length_nil]; omega), w64_nat (by omega)])
  (fun i out hi hv => by rw [hv, List.take_add_one, getD_in hi, List.getElem?_eq_getElem hi]; rfl)
  (fun j out hv => by
   show L27_3 k (j + 1) t.1.1 t.1.2 t.2 t.1.1 t.1.2 out (t.2.length : Int) = _
   rw [L27_3_s, l27_3, bif_f (by omega)]) t.2.length 0 k [] (by omega) (by omega) (by simp)
 have hg := goF_inv (inv := fun i (out : List Th) => out = t.2.take i) (f := fun i out => out ++ [t.2.getD i th0]) (n := t.2.length) (fun i out hi hv => by rw [hv, List.take_add_one, getD_in hi, List.getElem?_eq_getElem hi]; rfl) t.2.length 0 [] (by omega) (by simp)
 refine Eq.trans this ?_
 rw [hg, List.take_length]
theorem S31_refl {k : Nat} (hk : 1000 ≤ k) {b : List Int × List Int} (h1 : b.1.length ≤ 100) (h2 : b.2.length ≤ 100) : S31 k b b = some ((true, ()), ()) := by
 unfold S31
 rw [bne_self_eq_false, bne_self_eq_false, cond_false, cond_false]
 have r2 := anyN (L := fun j i => L31_9 k j b.1 b.2 b.1 b.2 i) (n := b.2.length) (fun _ => false) none (some ((true, ()), ())) (fun j i hi => by
  show L31_9 k (j + 1) b.1 b.2 b.1 b.2 (i : Int) = _
  rw [L31_9_s, l31_9, bif_t (by omega), ix_nat hi, ix_nat hi, bne_self_eq_false, cond_false, w64_nat (by omega)]; rfl) (fun j => by
  show L31_9 k (j + 1) b.1 b.2 b.1 b.2 (b.2.length : Int) = _
  rw [L31_9_s, l31_9, bif_f (by omega)]) b.2.length 0 k (by omega) (by omega)
 rw [(anyF_none _ _ _).2 (fun _ _ _ => rfl), cond_false] at r2
 have r1 := anyN (L := fun j i => L31_4 k j b.1 b.2 b.1 b.2 i) (n := b.1.length) (fun _ => false) none (some ((true, ()), ())) (fun j i hi => by
  show L31_4 k (j + 1) b.1 b.2 b.1 b.2 (i : Int) = _
  rw [L31_4_s, l31_4, bif_t (by omega), ix_nat hi, ix_nat hi, bne_self_eq_false, cond_false, w64_nat (by omega)]; rfl) (fun j => by
  show L31_4 k (j + 1) b.1 b.2 b.1 b.2 (b.1.length : Int) = _
  rw [L31_4_s, l31_4, bif_f (by omega)]; exact r2) b.1.length 0 k (by omega) (by omega)
 rw [(anyF_none _ _ _).2 (fun _ _ _ => rfl), cond_false] at r1
 exact r1
theorem beqD_pair (a : Int × Int) {k1 k2 : IntKind} : beqD (.pair (.int k1) (.int k2)) a a = true := by simp [beqD]
theorem S32_refl {k : Nat} (hk : 1000 ≤ k) {f : Int × List (Int × Int)} (h : f.2.length ≤ 100) : S32 k f f = some ((true, ()), ()) := by
 unfold S32 S57
 rw [beq_self_eq_true, cond_true, bne_self_eq_false, cond_false]
 have r1 := anyN (L := fun j i => L57_4 k j f.2 f.2 i) (n := f.2.length) (fun _ => false) none (some ((true, ()), ())) (fun j i hi => by
  show L57_4 k (j + 1) f.2 f.2 (i : Int) = _
  rw [L57_4_s, l57_4, bif_t (by omega), ix_nat hi, ix_nat hi, beqD_pair, Bool.not_true, cond_false, w64_nat (by omega)]; rfl) (fun j => by
  show L57_4 k (j + 1) f.2 f.2 (f.2.length : Int) = _
  rw [L57_4_s, l57_4, bif_f (by omega)]) f.2.length 0 k (by omega) (by omega)
 rw [(anyF_none _ _ _).2 (fun _ _ _ => rfl), cond_false] at r1
 rw [show L57_4 k k f.2 f.2 0 = some ((true, ()), ()) from r1]; rfl
theorem S29_refl {k : Nat} (hk : 1000 ≤ k) {x : Th} (h : SmT x) : S29 k x x = some ((true, ()), ()) := by
 unfold S29
 rw [beq_self_eq_true, beq_self_eq_true, beqD_pair, beqD_pair, cond_true, cond_true, cond_true, cond_true, S31_refl hk h.1 h.2.1, Option.bind_some, cond_true, S32_refl hk h.2.2]; rfl
end Go.Proofs.Ytnlfdfjkgaanjaa.Ab

/- Tables: what is made; what is put is sealed: the law. -/
namespace Go.Proofs.Ytnlfdfjkgaanjaa.Ab
open Go.RowKit
set_option linter.unusedSimpArgs false
set_option linter.unusedVariables false
abbrev Sl : Type := List Int × List Bool
def freeI (s : Sl) : Int := idxI (fun b => b == false) (s.2.take (min s.1.length s.2.length))
def takeV (s : Sl) : Sl × (Int × Int) × Bool :=
 if freeI s < 0 then (s, (0, 0), false)
 else ((s.1.set (freeI s).toNat (IntKind.i64.wrap (s.1.getD (freeI s).toNat 0 + 1)), s.2.set (freeI s).toNat true), (freeI s, IntKind.i64.wrap (s.1.getD (freeI s).toNat 0 + 1)), true)
theorem idxI_range {α : Type} (f : α → Bool) (xs : List α) : idxI f xs = -1 ∨ ∃ n : Nat, n < xs.length ∧ idxI f xs = (n : Int) := by
 unfold idxI
 cases h : xs.findIdx? f with
 | none => exact .inl rfl
 | some n =>
  rw [List.findIdx?_eq_some_iff_getElem] at h
  obtain ⟨hn, _⟩ := h
  exact .inr ⟨n, hn, rfl⟩
theorem S81_eq {k : Nat} (hk : 1000 ≤ k) {s : List Bool} (h : s.length ≤ 900) : S81 k s false = some ((idxI (fun b => b == false) s, ()), ()) := by
 unfold S81
 refine idx_all (fun j i => L81_2 k j s false (s.length : Int) i) s false _ (fun j i hi => ?_) (fun j => ?_) k (by omega)
 ·show L81_2 k (j + 1) s false (s.length : Int) (i : Int) = _
  rw [L81_2_s, l81_2, bif_t (by omega), ix_nat hi, w64_nat (by omega), rd_nat]
  cases s.getD i false <;> rfl
 ·show L81_2 k (j + 1) s false (s.length : Int) (s.length : Int) = _
  rw [L81_2_s, l81_2, bif_f (by omega)]
theorem S46_eq {k : Nat} (hk : 1000 ≤ k) {s : Sl} (h1 : s.1.length ≤ 100) (h2 : s.2.length ≤ 100) : S46 k s = some (((takeV s).1, (takeV s).2.1, (takeV s).2.2, ()), ()) := by
 unfold S46 S80 S82
 simp only [S78, S79, S87, S88]
 rw [clone_eq (by omega), Option.bind_some, clone_eq (by omega), Option.bind_some, Option.bind_some, Option.bind_some, mn_eq]
 simp only
 have hm : min (s.1.length : Int) (s.2.length : Int) = ((min s.1.length s.2.length : Nat) : Int) := by omega
 have hsub : sub s.2 0 ((min s.1.length s.2.length : Nat) : Int) = s.2.take (min s.1.length s.2.length) := by simp [sub]
 rw [hm, sx_ok (by omega) (by omega) (by omega), hsub, S81_eq hk (by rw [List.length_take]; omega), Option.bind_some]
 unfold takeV
 rcases idxI_range (fun b => b == false) (s.2.take (min s.1.length s.2.length)) with e | ⟨n, hn, e⟩
 ·have hf : freeI s = -1 := e
  rw [hf, if_pos (by omega)]
  simp only [e]
  rw [bif_t (by omega)]
 ·have hf : freeI s = (n : Int) := e
  rw [List.length_take] at hn
  rw [hf, if_neg (by omega)]
  simp only [e]
  rw [bif_f (by omega), ix_nat (by omega), ix_nat (by omega), ix_nat (by omega), ix_ok (by omega) (by rw [upd_len]; omega)]
  simp only [rd_nat, upd_nat, Int.toNat_natCast]
  rw [set_get, if_pos ⟨rfl, by omega⟩]
def manyT (c : Int) (l : List Th) : Nat := l.countP (fun x => x.1 == c)
def freshT (c : Int) (h : Int × Int) : Th := (c, h, (if c = 1 then 8 else 0, 0), ([], []), (0, []), 0)
noncomputable def makeV (k : Nat) (t : Tb) (c : Int) : Tb × (Int × Int) × Bool :=
 if 4 ≤ manyT c t.2 ∨ (takeV t.1).2.2 = false ∨ (t.2.length : Int) ≤ (takeV t.1).2.1.1 then (t, (0, 0), false)
 else (((takeV t.1).1, upd t.2 (takeV t.1).2.1.1 (sealT k (freshT c (takeV t.1).2.1))), (takeV t.1).2.1, true)
theorem takeV_at (s : Sl) : 0 ≤ (takeV s).2.1.1 := by
 unfold takeV
 split
 ·simp
 ·rename_i h; simp only; omega
theorem L21_4_eq {k : Nat} (hk : 1000 ≤ k) {c a b : Int} {mo : List (Int × Int)} {t : Tb} (hmo : mget (.int .i64) (.int .i64) c mo 0 = 4) (h1 : t.1.1.length ≤ 100) (h2 : t.1.2.length ≤ 100) (h3 : t.2.length ≤ 100) : ∀ (m i j n : Nat), i + m = t.2.length → m < j → n ≤ i →
  L21_4 k j c a b mo t.1.1 t.1.2 t.2 (n : Int) t.2 (t.2.length : Int) (i : Int) =
   (if 4 ≤ n + manyT c (t.2.drop i) ∨ (takeV t.1).2.2 = false ∨ (t.2.length : Int) ≤ (takeV t.1).2.1.1 then some ((t, (0, 0), false, ()), ()) else some ((((takeV t.1).1, upd t.2 (takeV t.1).2.1.1 (sealT k (freshT c (takeV t.1).2.1))), (takeV t.1).2.1, true, ()), ()))
 | 0, i, j, n, h, hj, hn => by
  obtain ⟨j', rfl⟩ : ∃ j', j = j' + 1 := ⟨j - 1, by omega⟩
  rw [L21_4_s, l21_4, bif_f (by omega), S46_eq hk h1 h2, Option.bind_some, drop_nil (by omega), hmo]
  have hma : manyT c [] = 0 := rfl
  rw [hma, Nat.add_zero]
  simp only
  have e0 : ((t.1.1, t.1.2) : Sl) = t.1 := rfl
  rw [e0]
  by_cases e : 4 ≤ n
  ·rw [bif_t (by omega), if_pos (.inl e)]
  ·rw [bif_f (by omega)]
   cases hok : (takeV t.1).2.2 with
   | false => rw [if_pos (.inr (.inl rfl))]; rfl
   | true =>
    rw [Bool.not_true, cond_false]
    by_cases e2 : (t.2.length : Int) ≤ (takeV t.1).2.1.1
    ·rw [bif_t (by omega), if_pos (.inr (.inr e2))]
    ·have hat := takeV_at t.1
     rw [bif_f (by omega), if_neg (by rintro (q | q | q); exact e q; cases q; exact e2 q)]
     have hfr : S48 k c (takeV t.1).2.1 = some ((freshT c (takeV t.1).2.1, ()), ()) := by
      unfold S48 freshT
      by_cases e3 : c = 1
      ·rw [show (c == 1) = true by rw [e3]; rfl, cond_true, if_pos e3]
      ·rw [show (c == 1) = false by simpa using e3, cond_false, if_neg e3]
     rw [hfr, Option.bind_some, S47_eq hk ⟨by simp [freshT], by simp [freshT], by simp [freshT]⟩, Option.bind_some, ix_ok hat (by omega)]
 | m + 1, i, j, n, h, hj, hn => by
  obtain ⟨j', rfl⟩ : ∃ j', j = j' + 1 := ⟨j - 1, by omega⟩
  have hi : i < t.2.length := by omega
  have ih := L21_4_eq hk (c := c) (a := a) (b := b) hmo h1 h2 h3 m (i + 1) j'
  have hc : manyT c (t.2.getD i th0 :: t.2.drop (i + 1)) = manyT c (t.2.drop (i + 1)) + (if ((t.2.getD i th0).1 == c) = true then 1 else 0) := by unfold manyT; rw [List.countP_cons]
  rw [L21_4_s, l21_4, bif_t (by omega), ix_nat hi, rd_nat, w64_nat (by omega), w64_nat (by omega), drop_cons th0 hi, hc]
  cases e : (t.2.getD i th0).1 == c with
  | true =>
   simp only [cond_true, if_true]
   rw [ih (n + 1) (by omega) (by omega) (by omega), show n + (manyT c (t.2.drop (i + 1)) + 1) = n + 1 + manyT c (t.2.drop (i + 1)) by omega]
  | false =>
   simp only [cond_false, Bool.false_eq_true, if_false, Nat.add_zero]
   exact ih n (by omega) (by omega) (by omega)
theorem S21_eq {k : Nat} (hk : 1000 ≤ k) {t : Tb} {c : Int} (ht : SmB t) (hc : c = 1 ∨ c = 2 ∨ c = 3) : S21 k t c = some (((makeV k t c).1, (makeV k t c).2.1, (makeV k t c).2.2, ()), ()) := by
 unfold S21
 rw [S45_eq hk ht, Option.bind_some]
 obtain ⟨⟨h1, h2, h3⟩, _⟩ := ht
 have hmo : mget (.int .i64) (.int .i64) c (updD (.int .i64) (.int .i64) 3 4 (updD (.int .i64) (.int .i64) 2 4 (updD (.int .i64) (.int .i64) 1 4 ([] : List (Int × Int))))) 0 = 4 := by
  rcases hc with rfl | rfl | rfl <;> rfl
 have := L21_4_eq hk (c := c) (a := 0) (b := 0) hmo h1 h2 h3 t.2.length 0 k 0 (by omega) (by omega) (by omega)
 rw [List.drop_zero, Nat.zero_add] at this
 refine Eq.trans this ?_
 unfold makeV
 split <;> rfl
def newT : Tb := ((List.replicate 12 0, List.replicate 12 false), List.replicate 12 th0)
theorem S20_eq (k : Nat) : S20 k = some ((newT, ()), ()) := rfl
theorem SmT_0 : SmT th0 := ⟨by simp, by simp, by simp⟩
theorem SmB_new : SmB newT := ⟨⟨by simp [newT], by simp [newT], by simp [newT]⟩, fun x hx => by
 rw [List.eq_of_mem_replicate hx]; exact SmT_0⟩
theorem S19_eq : S19 1000 = some ((true, ()), ()) := by kernel_rfl
theorem SmB_upd {t : Tb} {i : Int} {x : Th} (ht : SmB t) (hx : SmT x) : SmB (t.1, upd t.2 i x) := by
 obtain ⟨⟨h1, h2, h3⟩, h4⟩ := ht
 refine ⟨⟨h1, h2, by rw [upd_len]; exact h3⟩, fun y hy => ?_⟩
 rcases List.mem_or_eq_of_mem_set hy with q | q
 ·exact h4 y q
 ·rw [q]; exact hx
theorem wf_u8' {n : Int} (h : (Lit.int .u8 n).wf = true) : 0 ≤ n ∧ n ≤ 255 := by
 simp [Lit.wf, IntKind.min, IntKind.max, IntKind.signed, IntKind.bits] at h
 omega
end Go.Proofs.Ytnlfdfjkgaanjaa.Ab

/- What was turned begins anew, nothing else: the law. -/
namespace Go.Proofs.Ytnlfdfjkgaanjaa.Ab
open Go.RowKit
set_option linter.unusedSimpArgs false
set_option linter.unusedVariables false
theorem u32_emod' (n : Int) : IntKind.u32.wrap n = n % 4294967296 := by
 unfold IntKind.wrap
 have e1 : (2 ^ IntKind.u32.bits : Int) = 4294967296 := by decide
 simp only [e1, IntKind.signed, Bool.false_and, Bool.false_eq_true, if_false]
theorem inot_ne (n : Int) : inot .u32 n ≠ n := by
 unfold inot
 intro h
 have h1 : (if IntKind.u32.signed = true then (-1 : Int) else IntKind.u32.max) = 4294967295 := by decide
 rw [h1] at h
 have e : ∀ x : BitVec 32, IntKind.u32.wrap (x.toNat : Int) = (x.toNat : Int) := fun x => by
  have := x.isLt
  have h2 : (2 : Nat) ^ 32 = 4294967296 := by decide
  rw [u32_emod']; omega
 have h' : IntKind.u32.wrap (((BitVec.ofInt 32 4294967295 ^^^ BitVec.ofInt 32 n).toNat : Nat) : Int) = n := h
 rw [e] at h'
 have h3 := congrArg (BitVec.ofInt 32) h'
 rw [BitVec.ofInt_natCast, BitVec.ofNat_toNat, BitVec.setWidth_eq] at h3
 have h4 : BitVec.ofInt 32 4294967295 = 0#32 := by
  have := congrArg (fun y => y ^^^ BitVec.ofInt 32 n) h3
  simp only [BitVec.xor_self, BitVec.xor_assoc, BitVec.xor_zero] at this
  exact this
 exact absurd h4 (by decide)
noncomputable def cntA (k : Nat) (l : List Th) : Nat → Nat
 | 0 => 0
 | i + 1 => cntA k l i + (if trn k (l.getD i th0) = true then 1 else 0)
structure AudI (k : Nat) (l : List Th) (i : Nat) (s : List Th × List Int × List (List Int)) : Prop where
 len : s.1.length = l.length
 len1 : s.2.1.length = cntA k l i
 len2 : s.2.2.length = cntA k l i
 told : ∀ j, j < i → trn k (l.getD j th0) = true → s.2.1.getD (cntA k l j) 0 = (j : Int) ∧ s.2.2.getD (cntA k l j) [] = waitsT (l.getD j th0) ∧ s.1.getD j th0 = frT k (l.getD j th0) ∧ cntA k l j < cntA k l i
 kept : ∀ j, (i ≤ j ∨ trn k (l.getD j th0) = false) → s.1.getD j th0 = l.getD j th0
theorem aud_inv {k : Nat} {l : List Th} : ∀ (m i : Nat) (s : List Th × List Int × List (List Int)), i + m = l.length → AudI k l i s → AudI k l l.length (aud k l m i s)
 | 0, i, s, h, hi => by
  have : i = l.length := by omega
  subst this; exact hi
 | m + 1, i, s, h, hi => by
  rw [aud]
  refine aud_inv m (i + 1) _ (by omega) ?_
  obtain ⟨h1, h2, h3, h4, h5⟩ := hi
  by_cases e : trn k (l.getD i th0) = true
  ·rw [if_pos e]
   have hc : cntA k l (i + 1) = cntA k l i + 1 := by rw [cntA, if_pos e]
   refine ⟨by rw [List.length_set]; exact h1, by rw [hc, List.length_append, h2]; rfl, by rw [hc, List.length_append, h3]; rfl, fun j hj ht => ?_, fun j hj => ?_⟩
   ·by_cases ej : j = i
    ·subst ej
     simp only
     rw [getD_app_r (by omega), getD_app_r (by omega), h2, h3, Nat.sub_self, set_get, if_pos ⟨rfl, by omega⟩]
     exact ⟨rfl, rfl, rfl, by omega⟩
    ·obtain ⟨q1, q2, q3, q4⟩ := h4 j (by omega) ht
     simp only
     rw [getD_app_l (by omega), getD_app_l (by omega), set_get, if_neg (by omega)]
     exact ⟨q1, q2, q3, by omega⟩
   ·simp only
    rw [set_get, if_neg]
    ·exact h5 j (hj.imp (fun q => (by omega)) id)
    ·rintro ⟨rfl, _⟩
     rcases hj with q | q
     ·omega
     ·rw [e] at q; cases q
  ·rw [if_neg e]
   have hc : cntA k l (i + 1) = cntA k l i := by rw [cntA, if_neg e]; rfl
   refine ⟨h1, by rw [hc]; exact h2, by rw [hc]; exact h3, fun j hj ht => ?_, fun j hj => h5 j (hj.imp (fun q => (by omega)) id)⟩
   by_cases ej : j = i
   ·subst ej; exact absurd ht e
   ·rw [hc]; exact h4 j (by omega) ht
theorem aud_ok (k : Nat) (l : List Th) : AudI k l l.length (aud k l l.length 0 (l, [], [])) :=
 aud_inv l.length 0 (l, [], []) (by omega) ⟨rfl, rfl, rfl, fun j hj => by omega, fun j _ => rfl⟩
/-! ### made tables -/
structure IM (k : Nat) (t : Tb) : Prop where
 sm : SmB t
 len : t.2.length = 12
 sealed : ∀ i, i < 12 → (t.2.getD i th0).1 = 0 ∨ (t.2.getD i th0).2.2.2.2.2 = sumV k (t.2.getD i th0)
theorem takeV_len (s : Sl) : (takeV s).1.1.length = s.1.length ∧ (takeV s).1.2.length = s.2.length := by
 unfold takeV
 split
 ·exact ⟨rfl, rfl⟩
 ·simp
theorem upd_get {l : List Th} {i : Int} {x : Th} {j : Nat} (hi : 0 ≤ i) : (upd l i x).getD j th0 = if i.toNat = j ∧ j < l.length then x else l.getD j th0 := by unfold upd; rw [set_get]
theorem make_IM {k : Nat} {t : Tb} {c : Int} (h : IM k t) : IM k (makeV k t c).1 := by
 unfold makeV
 split
 ·exact h
 ·rename_i hn
  have hlt : ¬ (t.2.length : Int) ≤ (takeV t.1).2.1.1 := fun e => hn (.inr (.inr e))
  have hat := takeV_at t.1
  have htl := takeV_len t.1
  obtain ⟨⟨⟨h1, h2, h3⟩, h4⟩, h5, h6⟩ := h
  have hfr : SmT (sealT k (freshT c (takeV t.1).2.1)) := ⟨by simp [sealT, freshT], by simp [sealT, freshT], by simp [sealT, freshT]⟩
  refine ⟨⟨⟨by rw [htl.1]; exact h1, by rw [htl.2]; exact h2, by simp only; rw [upd_len]; exact h3⟩, fun y hy => ?_⟩, by simp only; rw [upd_len]; exact h5, fun i hi => ?_⟩
  ·rcases List.mem_or_eq_of_mem_set hy with q | q
   ·exact h4 y q
   ·rw [q]; exact hfr
  ·simp only
   rw [upd_get hat]
   split
   ·exact .inr rfl
   ·exact h6 i hi
def xAt (i : Nat) : Th := (0, (0, 0), (3, 2), ([(i : Int)], [((i + 1 : Nat) : Int)]), (5, []), 0)
theorem xAt_sm (i : Nat) : SmT (xAt i) := ⟨by simp [xAt], by simp [xAt], by simp [xAt]⟩
def isW (k : Nat) (i : Nat) (x : Th) : Prop := x.1 = 0 ∨ x = sealT k (x.1, x.2.1, (xAt i).2.2)
theorem isTh_nat {t : Tb} {i : Nat} (h : i < t.2.length) : isTh t (i : Int) = ((t.2.getD i th0).1 != 0) := by
 unfold isTh; rw [decide_eq_true (show (0 : Int) ≤ (i : Int) by omega), decide_eq_true (show (i : Int) < (t.2.length : Int) by omega), rd_nat]; rfl
theorem putT_w {k : Nat} {w : Th} {i : Nat} (h : w.2.2.2.2.2 = sumV k w) : putT k w (xAt i) = sealT k (w.1, w.2.1, (xAt i).2.2) := by unfold putT; rw [if_pos h]
theorem putT_sm {k : Nat} {w x : Th} (h : SmT x) : SmT (putT k w x) := by unfold putT; split <;> exact h
theorem put_get {k : Nat} {t : Tb} {i j : Nat} {x : Th} (hi : i < t.2.length) : (putV k t i x).2.getD j th0 = if i = j ∧ (t.2.getD i th0).1 ≠ 0 then putT k (t.2.getD i th0) x else t.2.getD j th0 := by
 unfold putV
 rw [isTh_nat hi]
 by_cases e : (t.2.getD i th0).1 = 0
 ·rw [if_neg (by rw [e]; simp), if_neg (fun q => q.2 e)]
 ·rw [if_pos (bne_iff_ne.2 e)]
  simp only
  rw [upd_get (by omega), Int.toNat_natCast, rd_nat]
  by_cases ej : i = j
  ·subst ej; rw [if_pos ⟨rfl, hi⟩, if_pos ⟨rfl, e⟩]
  ·rw [if_neg (fun q => ej q.1), if_neg (fun q => ej q.1)]
theorem put_sm {k : Nat} {t : Tb} {i : Int} {x : Th} (h : SmB t) (hx : SmT x) : SmB (putV k t i x) := by
 unfold putV; split
 ·exact SmB_upd h (putT_sm hx)
 ·exact h
theorem put_len {k : Nat} {t : Tb} {i : Int} {x : Th} : (putV k t i x).2.length = t.2.length := by
 unfold putV; split
 ·simp only; rw [upd_len]
 ·rfl
theorem turn_sm {t : Tb} {i : Int} (h : SmB t) : SmB (turnV t i) := by
 unfold turnV; split
 ·rename_i e
  obtain ⟨h0, h1, _⟩ := isTh_in e
  have hq : SmT (rd t.2 i th0) := h.2 _ (rd_mem h0 h1)
  exact SmB_upd h (x := turnT (rd t.2 i th0)) hq
 ·exact h
theorem turn_len {t : Tb} {i : Int} : (turnV t i).2.length = t.2.length := by
 unfold turnV; split
 ·simp only; rw [upd_len]
 ·rfl
theorem turn_get {t : Tb} {i j : Nat} (hi : i < t.2.length) : (turnV t i).2.getD j th0 = if i = j ∧ (t.2.getD i th0).1 ≠ 0 then turnT (t.2.getD i th0) else t.2.getD j th0 := by
 unfold turnV
 rw [isTh_nat hi]
 by_cases e : (t.2.getD i th0).1 = 0
 ·rw [if_neg (by rw [e]; simp), if_neg (fun q => q.2 e)]
 ·rw [if_pos (bne_iff_ne.2 e)]
  simp only
  rw [upd_get (by omega), Int.toNat_natCast, rd_nat]
  by_cases ej : i = j
  ·subst ej; rw [if_pos ⟨rfl, hi⟩, if_pos ⟨rfl, e⟩]
  ·rw [if_neg (fun q => ej q.1), if_neg (fun q => ej q.1)]
def bt (v : Int) (i : Nat) : Bool := iand .u16 (ishr .u16 v (i : Int)) 1 == 1
theorem trn_sealed {k : Nat} {x : Th} (h : x.1 = 0 ∨ x.2.2.2.2.2 = sumV k x) : trn k x = false := by
 unfold trn
 rcases h with h | h
 ·rw [h]; rfl
 ·rw [h, bne_self_eq_false, Bool.and_false]
theorem isW_sealed {k i : Nat} {x : Th} (h : isW k i x) : x.1 = 0 ∨ x.2.2.2.2.2 = sumV k x := by
 rcases h with h | h
 ·exact .inl h
 ·right; rw [h]; rfl
theorem trn_turn {k i : Nat} {x : Th} (h : isW k i x) (h0 : x.1 ≠ 0) : trn k (turnT x) = true := by
 have h1 : x.2.2.2.2.2 = sumV k x := (isW_sealed h).resolve_left h0
 unfold trn
 have e1 : (turnT x).1 = x.1 := rfl
 have e2 : sumV k (turnT x) = sumV k x := rfl
 have e3 : (turnT x).2.2.2.2.2 = inot .u32 x.2.2.2.2.2 := rfl
 rw [e1, e2, e3, ← h1, Bool.and_eq_true]
 exact ⟨by simpa using h0, by simpa using inot_ne _⟩
structure IB (k : Nat) (v : Int) (A : Tb) (i : Nat) (t : Tb) : Prop where
 sm : SmB t
 len : t.2.length = 12
 at_ : ∀ j, j < 12 → t.2.getD j th0 = if (decide (j < i) && bt v j) = true ∧ (A.2.getD j th0).1 ≠ 0 then turnT (A.2.getD j th0) else A.2.getD j th0
theorem IB_step {k : Nat} (hk : 1000 ≤ k) {v : Int} {A t : Tb} {i : Nat} {pb : Bool} (hA : A.2.length = 12) (hW : ∀ j, j < 12 → isW k j (A.2.getD j th0)) (hi : i < 12) (h : IB k v A i t) :
  IB k v A (i + 1) (if pb = true then putV k (if bt v i = true then turnV t i else t) i (xAt i) else (if bt v i = true then turnV t i else t)) := by
 obtain ⟨h1, h2, h3⟩ := h
 have hti : t.2.getD i th0 = A.2.getD i th0 := by rw [h3 i hi, if_neg (by simp)]
 -- behind the turn
 have hu : SmB (if bt v i = true then turnV t i else t) ∧ (if bt v i = true then turnV t i else t).2.length = 12 ∧ ∀ j, j < 12 → (if bt v i = true then turnV t i else t).2.getD j th0 = if (decide (j < i + 1) && bt v j) = true ∧ (A.2.getD j th0).1 ≠ 0 then turnT (A.2.getD j th0) else A.2.getD j th0 := by
  by_cases e : bt v i = true
  ·rw [if_pos e]
   refine ⟨turn_sm h1, by rw [turn_len]; exact h2, fun j hj => ?_⟩
   rw [turn_get (by omega), hti]
   by_cases ej : i = j
   ·subst ej
    have : (decide (i < i + 1) && bt v i) = true := by rw [e]; simp
    by_cases e0 : (A.2.getD i th0).1 = 0
    ·rw [if_neg (fun q => q.2 e0), if_neg (fun q => q.2 e0), hti]
    ·rw [if_pos ⟨rfl, e0⟩, if_pos ⟨this, e0⟩]
   ·rw [if_neg (fun q => ej q.1), h3 j hj, show decide (j < i + 1) = decide (j < i) from decide_eq_decide.2 ⟨fun _ => by omega, fun _ => by omega⟩]
  ·rw [if_neg e]
   refine ⟨h1, h2, fun j hj => ?_⟩
   rw [h3 j hj]
   by_cases ej : i = j
   ·subst ej
    have e' : bt v i = false := by simpa using e
    rw [e', Bool.and_false, Bool.and_false]
   ·rw [show decide (j < i + 1) = decide (j < i) from decide_eq_decide.2 ⟨fun _ => by omega, fun _ => by omega⟩]
 generalize (if bt v i = true then turnV t i else t) = u at hu ⊢
 obtain ⟨u1, u2, u3⟩ := hu
 cases pb with
 | false => exact ⟨u1, u2, u3⟩
 | true =>
  rw [if_pos rfl]
  refine ⟨put_sm u1 (xAt_sm i), by rw [put_len]; exact u2, fun j hj => ?_⟩
  rw [put_get (by omega)]
  by_cases ej : i = j ∧ (u.2.getD i th0).1 ≠ 0
  ·obtain ⟨rfl, e0⟩ := ej
   rw [if_pos ⟨rfl, e0⟩]
   have hui := u3 i hi
   have hWi := hW i hi
   by_cases c : (decide (i < i + 1) && bt v i) = true ∧ (A.2.getD i th0).1 ≠ 0
   ·rw [if_pos c] at hui ⊢
    rw [hui]
    have h5 : (A.2.getD i th0).2.2.2.2.2 = sumV k (A.2.getD i th0) := (isW_sealed hWi).resolve_left c.2
    have hs := hWi.resolve_left c.2
    unfold putT
    have e2 : sumV k (turnT (A.2.getD i th0)) = sumV k (A.2.getD i th0) := rfl
    have e3 : (turnT (A.2.getD i th0)).2.2.2.2.2 = inot .u32 (A.2.getD i th0).2.2.2.2.2 := rfl
    have e4 : (turnT (A.2.getD i th0)).1 = (A.2.getD i th0).1 := rfl
    have e5 : (turnT (A.2.getD i th0)).2.1 = (A.2.getD i th0).2.1 := rfl
    rw [e2, e3, e4, e5, if_neg (by rw [← h5]; exact inot_ne _), ← hs]; rfl
   ·rw [if_neg c] at hui ⊢
    rw [hui] at e0 ⊢
    have h5 : (A.2.getD i th0).2.2.2.2.2 = sumV k (A.2.getD i th0) := (isW_sealed hWi).resolve_left e0
    rw [putT_w h5]
    exact (hWi.resolve_left e0).symm
  ·rw [if_neg ej]; exact u3 j hj
theorem L10_29_eq {k : Nat} (hk : 1000 ≤ k) {v : Int} {A u : Tb} {B : List Th} (hA : SmB A) (hAl : A.2.length = 12) (hW : ∀ j, j < 12 → isW k j (A.2.getD j th0)) (hBl : B.length = 12)
  (hB : ∀ j, j < 12 → B.getD j th0 = if (decide (j < 12) && bt v j) = true ∧ (A.2.getD j th0).1 ≠ 0 then turnT (A.2.getD j th0) else A.2.getD j th0) {s : List Th × List Int × List (List Int)} (hs : AudI k B 12 s) (hu : SmB u) (hul : u.2 = s.1) : ∀ (m i j : Nat), i + m = 12 → m < j →
  L10_29 k j v A.1.1 A.1.2 A.2 u.1.1 u.1.2 u.2 s.2.1 s.2.2 u.1.1 u.1.2 s.1 (cntA k B i : Int) (i : Int) = some ((true, ()), ())
 | 0, i, j, h, hj => by
  obtain ⟨j', rfl⟩ : ∃ j', j = j' + 1 := ⟨j - 1, by omega⟩
  have hi : i = 12 := by omega
  subst hi
  rw [L10_29_s, l10_29, bif_f (by omega)]
  unfold j10_38
  have e0 : (((u.1.1, u.1.2), u.2) : Tb) = u := rfl
  rw [e0, S28_eq hk hu, Option.bind_some, hs.len1, beq_self_eq_true, cond_true]
  have hno : aud k u.2 u.2.length 0 (u.2, [], []) = (u.2, [], []) := aud_none _ _ _ (fun n _ hn => by
   rw [hul] at hn ⊢
   rw [hs.len, hBl] at hn
   by_cases ht : trn k (B.getD n th0) = true
   ·rw [(hs.told n (by omega) ht).2.2.1]
    exact trn_sealed (.inr rfl)
   ·rw [hs.kept n (.inr (by simpa using ht))]
    simpa using ht)
  rw [hno]; rfl
 | m + 1, i, j, h, hj => by
  obtain ⟨j', rfl⟩ : ∃ j', j = j' + 1 := ⟨j - 1, by omega⟩
  have hi : i < 12 := by omega
  have ih := L10_29_eq hk (v := v) (A := A) (u := u) hA hAl hW hBl hB hs hu hul m (i + 1) j' (by omega) (by omega)
  have hsl : s.1.length = 12 := by rw [hs.len]; exact hBl
  have hBi := hB i hi
  have hWi := hW i hi
  have hAs : SmT (A.2.getD i th0) := hA.2 _ (getD_mem (by omega))
  rw [L10_29_s, l10_29, bif_t (by omega), bif_t (by omega)]
  unfold nneg
  rw [if_neg (by omega)]
  have hbit : (iand .u16 (ishr .u16 v (i : Int)) 1 == 1) = bt v i := rfl
  rw [hbit]
  have plainC : ((decide (i < 12) && bt v i) = true ∧ (A.2.getD i th0).1 ≠ 0) → False → True := fun _ _ => trivial
  -- nothing begins anew here
  have no : ¬ ((decide (i < 12) && bt v i) = true ∧ (A.2.getD i th0).1 ≠ 0) → j10_32 k (fun a b c d e f g h i j k' l m n => L10_29 k j' a b c d e f g h i j k' l m n) v A.1.1 A.1.2 A.2 u.1.1 u.1.2 u.2 s.2.1 s.2.2 u.1.1 u.1.2 s.1 (cntA k B i : Int) (i : Int) false = some ((true, ()), ()) := fun c => by
   rw [if_neg c] at hBi
   have htr : trn k (B.getD i th0) = false := by rw [hBi]; exact trn_sealed (isW_sealed hWi)
   have hc : cntA k B (i + 1) = cntA k B i := by rw [cntA, if_neg (by rw [htr]; simp)]; rfl
   unfold j10_32
   rw [Bool.not_false, cond_true, ix_nat (by omega), ix_nat (by omega), rd_nat, rd_nat, hs.kept i (.inr htr), hBi, S29_refl hk hAs, Option.bind_some, Bool.not_true, cond_false, w64_nat (by omega), ← hc]
   exact ih
  cases hb : bt v i with
  | false =>
   rw [cond_false]
   exact no (by rw [hb]; simp)
  | true =>
   rw [cond_true, ix_nat (by omega), rd_nat]
   by_cases e0 : (A.2.getD i th0).1 = 0
   ·rw [show ((A.2.getD i th0).1 != 0) = false by simpa using e0]
    exact no (fun q => q.2 e0)
   ·rw [show ((A.2.getD i th0).1 != 0) = true by simpa using e0]
    have c : (decide (i < 12) && bt v i) = true ∧ (A.2.getD i th0).1 ≠ 0 := ⟨by rw [hb]; simp [hi], e0⟩
    rw [if_pos c] at hBi
    have htr : trn k (B.getD i th0) = true := by rw [hBi]; exact trn_turn hWi e0
    obtain ⟨t1, t2, t3, t4⟩ := hs.told i hi htr
    have hc : cntA k B (i + 1) = cntA k B i + 1 := by rw [cntA, if_pos htr]
    have hw : waitsT (B.getD i th0) = [((i + 1 : Nat) : Int)] := by rw [hBi, hWi.resolve_left e0]; rfl
    have h12 : cntA k B 12 ≤ 12 := by
     have : ∀ n, cntA k B n ≤ n := fun n => by
      induction n with
      | zero => simp [cntA]
      | succ n ihn => rw [cntA]; split <;> omega
     exact this 12
    have hl1 := hs.len1
    have hl2 := hs.len2
    unfold j10_32
    rw [Bool.not_true, cond_false, bif_f (by omega), ix_nat (by omega), rd_nat, t1, bne_self_eq_false, cond_false, ix_nat (by omega), rd_nat, t2, hw]
    rw [show (([((i + 1 : Nat) : Int)] : List Int).length : Int) = 1 from rfl, bne_self_eq_false, cond_false, ix_nat (by omega), ix_ok (by omega) (by simp), show rd [((i + 1 : Nat) : Int)] 0 0 = ((i + 1 : Nat) : Int) from rfl, w64_nat (by omega), bne_self_eq_false, cond_false]
    rw [ix_nat (by omega), rd_nat, t3]
    have f1 : (frT k (B.getD i th0)).2.2.1.2 = 0 := rfl
    have f2 : (frT k (B.getD i th0)).2.2.1.1 = if (A.2.getD i th0).1 = 1 then 3 else 0 := by
     have : (frT k (B.getD i th0)).2.2.1.1 = if (B.getD i th0).1 = 1 then (B.getD i th0).2.2.1.1 else 0 := rfl
     rw [this, hBi]
     have e1 : (turnT (A.2.getD i th0)).1 = (A.2.getD i th0).1 := rfl
     have e2 : (turnT (A.2.getD i th0)).2.2.1.1 = 3 := by rw [hWi.resolve_left e0]; rfl
     rw [e1, e2]
    have f3 : (frT k (B.getD i th0)).2.2.2.2.1.1 = 0 := rfl
    have f4 : ((frT k (B.getD i th0)).2.2.2.1.1.length : Int) = 0 := rfl
    have f5 : (frT k (B.getD i th0)).2.1 = (A.2.getD i th0).2.1 := by
     have : (frT k (B.getD i th0)).2.1 = (B.getD i th0).2.1 := rfl
     rw [this, hBi]; rfl
    rw [f1, bne_self_eq_false, cond_false, ix_nat (by omega), ix_nat (by omega), f2]
    have f6 : (((if (A.2.getD i th0).1 = 1 then (3 : Int) else 0) == 3) == ((A.2.getD i th0).1 == 1)) = true := by
     by_cases e1 : (A.2.getD i th0).1 = 1
     ·rw [if_pos e1, e1]; rfl
     ·rw [if_neg e1, show ((A.2.getD i th0).1 == 1) = false by simpa using e1]; rfl
    rw [rd_nat, f6, Bool.not_true, cond_false, ix_nat (by omega), f3, bne_self_eq_false, cond_false, ix_nat (by omega), f4, bne_self_eq_false, cond_false, ix_nat (by omega), ix_nat (by omega), f5, beqD_pair, Bool.not_true, cond_false, w64_nat (by omega), ← hc]
    exact ih
theorem L10_17_eq {k : Nat} (hk : 1000 ≤ k) {v pt : Int} {A : Tb} (hA : SmB A) (hAl : A.2.length = 12) (hW : ∀ j, j < 12 → isW k j (A.2.getD j th0)) : ∀ (m i j : Nat) (t : Tb), i + m = 12 → m < j → IB k v A i t →
  L10_17 k j v pt t.1.1 t.1.2 t.2 A.1.1 A.1.2 A.2 (i : Int) = some ((true, ()), ())
 | 0, i, j, t, h, hj, hI => by
  obtain ⟨j', rfl⟩ : ∃ j', j = j' + 1 := ⟨j - 1, by omega⟩
  have hi : i = 12 := by omega
  subst hi
  have hau := aud_ok k t.2
  rw [hI.len] at hau
  have e0 : (((t.1.1, t.1.2), t.2) : Tb) = t := rfl
  have hsm : SmB (t.1, (aud k t.2 12 0 (t.2, [], [])).1) := by
   obtain ⟨⟨h1, h2, h3⟩, h4⟩ := hI.sm
   refine ⟨⟨h1, h2, by simp only; rw [hau.len]; omega⟩, fun x hx => ?_⟩
   obtain ⟨n, hn, rfl⟩ := mem_getD th0 hx
   simp only at hn
   rw [hau.len, hI.len] at hn
   simp only
   by_cases ht : trn k (t.2.getD n th0) = true
   ·rw [(hau.told n hn ht).2.2.1]; exact ⟨by simp [frT, sealT], by simp [frT, sealT], by simp [frT, sealT]⟩
   ·rw [hau.kept n (.inr (by simpa using ht))]; exact h4 _ (getD_mem (by rw [hI.len]; exact hn))
  rw [L10_17_s, l10_17, bif_f (by omega), e0, S28_eq hk hI.sm, Option.bind_some, hI.len]
  simp only
  rw [S27_eq hk hsm.1.2.2, Option.bind_some]
  simp only
  rw [hau.len, hI.len, hAl, bne_self_eq_false, cond_false, hau.len1, hau.len2, bne_self_eq_false, cond_false]
  exact L10_29_eq hk hA hAl hW hI.len hI.at_ hau hsm rfl 12 0 k (by omega) (by omega)
 | m + 1, i, j, t, h, hj, hI => by
  obtain ⟨j', rfl⟩ : ∃ j', j = j' + 1 := ⟨j - 1, by omega⟩
  have hi : i < 12 := by omega
  have e0 : (((t.1.1, t.1.2), t.2) : Tb) = t := rfl
  rw [L10_17_s, l10_17, bif_t (by omega)]
  unfold nneg
  rw [if_neg (by omega), e0, S24_eq hk hI.sm]
  have hbit : (iand .u16 (ishr .u16 v (i : Int)) 1 == 1) = bt v i := rfl
  have hbitp : (iand .u16 (ishr .u16 pt (i : Int)) 1 == 1) = bt pt i := rfl
  have key : ∀ u : Tb, u = (if bt v i = true then turnV t i else t) → j10_21 k (fun a b c d e f g h i => L10_17 k j' a b c d e f g h i) v pt u.1.1 u.1.2 u.2 A.1.1 A.1.2 A.2 (i : Int) = some ((true, ()), ()) := fun u hu => by
   have hus : SmB u := by rw [hu]; split; exact turn_sm hI.sm; exact hI.sm
   have e1 : (((u.1.1, u.1.2), u.2) : Tb) = u := rfl
   have hx : ((0, (0, 0), (3, 2), ([(i : Int)], [IntKind.i64.wrap ((i : Int) + 1)]), (5, []), 0) : Th) = xAt i := by rw [w64_nat (by omega)]; rfl
   have hst := IB_step hk (pb := bt pt i) hAl hW hi hI
   rw [← hu] at hst
   unfold j10_21 nneg
   rw [if_neg (by omega), hbitp, e1, hx, S26_eq hk hus (xAt_sm i), w64_nat (by omega)]
   cases hp : bt pt i with
   | true =>
    rw [hp, if_pos rfl] at hst
    rw [cond_true, Option.bind_some]
    exact L10_17_eq hk hA hAl hW m (i + 1) j' (putV k u i (xAt i)) (by omega) (by omega) hst
   | false =>
    rw [hp, if_neg (by simp)] at hst
    rw [cond_false]
    exact L10_17_eq hk hA hAl hW m (i + 1) j' u (by omega) (by omega) hst
  rw [hbit]
  cases hb : bt v i with
  | true => rw [cond_true, Option.bind_some]; exact key (turnV t i) (by rw [hb]; rfl)
  | false => rw [cond_false]; exact key t (by rw [hb]; rfl)
theorem L10_12_eq {k : Nat} (hk : 1000 ≤ k) {v pt : Int} : ∀ (m i j : Nat) (t : Tb), i + m = 12 → m < j → IM k t → (∀ n, n < i → isW k n (t.2.getD n th0)) →
  L10_12 k j v pt t.1.1 t.1.2 t.2 (i : Int) = some ((true, ()), ())
 | 0, i, j, t, h, hj, hI, hW => by
  obtain ⟨j', rfl⟩ : ∃ j', j = j' + 1 := ⟨j - 1, by omega⟩
  have hi : i = 12 := by omega
  subst hi
  have e0 : (((t.1.1, t.1.2), t.2) : Tb) = t := rfl
  have hl := hI.len
  rw [L10_12_s, l10_12, bif_f (by omega), e0, S27_eq hk (by omega), Option.bind_some]
  exact L10_17_eq hk hI.sm hl hW 12 0 k t (by omega) (by omega) ⟨hI.sm, hl, fun j hj => by rw [if_neg (by simp)]⟩
 | m + 1, i, j, t, h, hj, hI, hW => by
  obtain ⟨j', rfl⟩ : ∃ j', j = j' + 1 := ⟨j - 1, by omega⟩
  have hi : i < 12 := by omega
  have hl := hI.len
  have e0 : (((t.1.1, t.1.2), t.2) : Tb) = t := rfl
  have hx : ((0, (0, 0), (3, 2), ([(i : Int)], [IntKind.i64.wrap ((i : Int) + 1)]), (5, []), 0) : Th) = xAt i := by rw [w64_nat (by omega)]; rfl
  rw [L10_12_s, l10_12, bif_t (by omega), bif_t (by omega), e0, hx, S26_eq hk hI.sm (xAt_sm i), Option.bind_some, w64_nat (by omega)]
  have hp : ∀ n, (putV k t i (xAt i)).2.getD n th0 = if i = n ∧ (t.2.getD i th0).1 ≠ 0 then sealT k ((t.2.getD i th0).1, (t.2.getD i th0).2.1, (xAt i).2.2) else t.2.getD n th0 := fun n => by
   rw [put_get (by omega)]
   by_cases c : i = n ∧ (t.2.getD i th0).1 ≠ 0
   ·rw [if_pos c, if_pos c, putT_w ((hI.sealed i hi).resolve_left c.2)]
   ·rw [if_neg c, if_neg c]
  refine L10_12_eq hk m (i + 1) j' (putV k t i (xAt i)) (by omega) (by omega) ⟨put_sm hI.sm (xAt_sm i), by rw [put_len]; exact hl, fun n hn => ?_⟩ (fun n hn => ?_)
  ·rw [hp]; split
   ·exact .inr rfl
   ·exact hI.sealed n hn
  ·rw [hp]; split
   ·rename_i c
    obtain ⟨rfl, _⟩ := c
    exact .inr rfl
   ·rename_i c
    by_cases en : n = i
    ·subst en
     left
     by_cases q : (t.2.getD n th0).1 = 0
     ·exact q
     ·exact absurd ⟨rfl, q⟩ c
    ·exact hW n (by omega)
theorem L10_7_eq {k : Nat} (hk : 1000 ≤ k) {v pt : Int} {ks : List Int} (hks : ∀ x ∈ ks, 0 ≤ x ∧ x ≤ 255) (hl : ks.length ≤ 12) : ∀ (m i j : Nat) (t : Tb), i + m = ks.length → m < j → IM k t →
  L10_7 k j ks v pt t.1.1 t.1.2 t.2 (i : Int) = some ((true, ()), ())
 | 0, i, j, t, h, hj, hI => by
  obtain ⟨j', rfl⟩ : ∃ j', j = j' + 1 := ⟨j - 1, by omega⟩
  rw [L10_7_s, l10_7, bif_f (by omega)]
  exact L10_12_eq hk 12 0 k t (by omega) (by omega) hI (fun n hn => by omega)
 | m + 1, i, j, t, h, hj, hI => by
  obtain ⟨j', rfl⟩ : ∃ j', j = j' + 1 := ⟨j - 1, by omega⟩
  have hx := hks _ (getD_mem (z := 0) (l := ks) (i := i) (by omega))
  have q1 := Int.tmod_nonneg 3 hx.1
  have q2 := Int.tmod_lt_of_pos (ks.getD i 0) (show (0 : Int) < 3 by omega)
  have e0 : (((t.1.1, t.1.2), t.2) : Tb) = t := rfl
  rw [L10_7_s, l10_7, bif_t (by omega), ix_nat (by omega), rd_nat, w64 (n := Int.tmod (ks.getD i 0) 3) (by omega) (by omega), w64 (n := 1 + Int.tmod (ks.getD i 0) 3) (by omega) (by omega), e0, S21_eq hk hI.sm (by omega), Option.bind_some, w64_nat (by omega)]
  exact L10_7_eq hk hks hl m (i + 1) j' _ (by omega) (by omega) (make_IM hI)
theorem objApart_pure {ks : List Int} {v pt : Int} (hks : ∀ x ∈ ks, 0 ≤ x ∧ x ≤ 255) : S10 1000 ks v pt = some ((true, ()), ()) := by
 unfold S10
 rw [S19_eq]
 simp only [Option.bind_some, Bool.not_true, cond_false]
 by_cases h1 : (ks.length : Int) > 12
 ·rw [bif_t h1]
 rw [bif_f h1, S20_eq, Option.bind_some]
 exact L10_7_eq (by omega) hks (by omega) ks.length 0 1000 newT (by omega) (by omega) ⟨SmB_new, by simp [newT], fun i hi => .inl (by
  simp only [newT]
  rw [List.getD_eq_getElem?_getD, List.getElem?_replicate]; split <;> rfl)⟩
theorem objApart_law {e : TypeId} (ks : List Int) (v pt : Int) (hks : Ty.fine (.sl e (.int .u8)) ks) (_ : Ty.fine (.int .u16) v) (_ : Ty.fine (.int .u16) pt) : ∃ k, S10 k ks v pt = some ((true, ()), ()) := ⟨1000, objApart_pure (fun x hx => wf_u8' (hks.2 x hx))⟩
end Go.Proofs.Ytnlfdfjkgaanjaa.Ab
