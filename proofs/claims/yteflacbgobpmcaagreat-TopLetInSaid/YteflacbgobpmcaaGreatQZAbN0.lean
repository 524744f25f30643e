import Derived.Test.YteflacbgobpmcaaGreatPbC
import Derived.Test.YteflacbgobpmcaaGreatAbN0
import Derived.Test.YteflacbgobpmcaaGreatAbN1
import Derived.Test.YteflacbgobpmcaaGreatAbN2
import Derived.KernelRfl
/- The plain law, and what it hangs on. -/
/- Small laws of lists, of loops with a counter, of searches, of arrays as lists. -/
namespace Go.Proofs.YteflacbgobpmcaaGreat.Ab
open Go.RowKit
set_option linter.unusedSimpArgs false
set_option linter.unusedVariables false
section
variable {σ R α : Type}
abbrev I4 : Type := Int × Int × Int × Int
abbrev i0 : I4 := (0, 0, 0, 0)
theorem bsel {c x y : Bool} : (bif c then some ((x, ()), ()) else some ((y, ()), ()) : Option ((Bool × Unit) × Unit)) = some ((bif c then x else y, ()), ()) := by cases c <;> rfl
theorem bsel_f {c x : Bool} : (bif c then x else false) = (c && x) := by cases c <;> rfl
theorem bassoc {a b c : Bool} : (bif (bif a then b else false) then c else false) = bif a then (bif b then c else false) else false := by cases a <;> rfl
theorem le_lt (n a b : Int) (h : b = a + 1) : decide (n ≤ a) = decide (n < b) := by subst h; congr 1; exact propext ⟨fun _ => by omega, fun _ => by omega⟩
theorem getD_in {l : List α} {n : Nat} {z : α} (h : n < l.length) : l.getD n z = l[n] := by
 simp [List.getD_eq_getElem?_getD, List.getElem?_eq_getElem h]
theorem getD_out {l : List α} {n : Nat} {z : α} (h : l.length ≤ n) : l.getD n z = z := by
 simp [List.getD_eq_getElem?_getD, List.getElem?_eq_none h]
theorem set_get {l : List α} {x y : Nat} {v z : α} : (l.set x v).getD y z = if x = y ∧ y < l.length then v else l.getD y z := by
 simp only [List.getD_eq_getElem?_getD, List.getElem?_set]
 by_cases h : x = y
 ·subst h
  by_cases h2 : x < l.length
  ·simp [h2]
  ·simp [h2]
 ·simp [h]
theorem getD_app_l {u w : List α} {n : Nat} {z : α} (h : n < u.length) : (u ++ w).getD n z = u.getD n z := by
 simp [List.getD_eq_getElem?_getD, List.getElem?_append_left h]
theorem getD_app_r {u w : List α} {n : Nat} {z : α} (h : u.length ≤ n) : (u ++ w).getD n z = w.getD (n - u.length) z := by
 simp [List.getD_eq_getElem?_getD, List.getElem?_append_right h]
theorem drop_cons {l : List α} {i : Nat} (z : α) (h : i < l.length) : l.drop i = l.getD i z :: l.drop (i + 1) := by
 rw [List.drop_eq_getElem_cons h, getD_in h]
theorem drop_nil {l : List α} {i : Nat} (h : i = l.length) : l.drop i = [] := List.drop_eq_nil_of_le (by omega)
theorem getD_mem {l : List α} {i : Nat} {z : α} (h : i < l.length) : l.getD i z ∈ l := by rw [getD_in h]; exact List.getElem_mem h
theorem mem_getD {l : List α} {x : α} (z : α) (h : x ∈ l) : ∃ i, i < l.length ∧ l.getD i z = x := by
 obtain ⟨i, hi, rfl⟩ := List.getElem_of_mem h
 exact ⟨i, hi, getD_in hi⟩
def goF (f : Nat → σ → σ) : Nat → Nat → σ → σ
 | 0, _, s => s
 | m + 1, i, s => goF f m (i + 1) (f i s)
theorem loopF {L : Nat → σ → Int → Option R} {n : Nat} (inv : Nat → σ → Prop) (f : Nat → σ → σ) (fin : σ → Option R)
  (hs : ∀ j i s, i < n → inv i s → L (j + 1) s (i : Int) = L j (f i s) ((i + 1 : Nat) : Int))
  (hi : ∀ i s, i < n → inv i s → inv (i + 1) (f i s))
  (he : ∀ j s, inv n s → L (j + 1) s (n : Int) = fin s) :
  ∀ (m i j : Nat) (s : σ), i + m = n → m < j → inv i s → L j s i = fin (goF f m i s)
 | 0, i, j, s, h, hj, hv => by
  obtain ⟨j', rfl⟩ : ∃ j', j = j' + 1 := ⟨j - 1, by omega⟩
  have : i = n := by omega
  subst this; exact he j' s hv
 | m + 1, i, j, s, h, hj, hv => by
  obtain ⟨j', rfl⟩ : ∃ j', j = j' + 1 := ⟨j - 1, by omega⟩
  rw [hs j' i s (by omega) hv, goF]
  exact loopF inv f fin hs hi he m (i + 1) j' _ (by omega) (by omega) (hi i s (by omega) hv)
theorem goF_inv {inv : Nat → σ → Prop} {f : Nat → σ → σ} {n : Nat} (hi : ∀ i s, i < n → inv i s → inv (i + 1) (f i s)) : ∀ (m i : Nat) (s : σ), i + m = n → inv i s → inv n (goF f m i s)
 | 0, i, s, h, hv => by
  have : i = n := by omega
  subst this; exact hv
 | m + 1, i, s, h, hv => goF_inv hi m (i + 1) _ (by omega) (hi i s (by omega) hv)
def idxI (f : α → Bool) (xs : List α) : Int := match xs.findIdx? f with | some n => (n : Int) | none => -1
theorem idx_gen (L : Nat → Int → Option ((Int × Unit) × Unit)) (xs : List α) (z : α) (f : α → Bool)
  (hs : ∀ (j n : Nat), n < xs.length → L (j + 1) (n : Int) = bif f (xs.getD n z) then some (((n : Int), ()), ()) else L j ((n + 1 : Nat) : Int))
  (he : ∀ j, L (j + 1) (xs.length : Int) = some ((-1, ()), ())) : ∀ (m i j : Nat), i + m = xs.length → m < j →
   L j i = some (((match (xs.drop i).findIdx? f with | some n => ((i + n : Nat) : Int) | none => -1), ()), ())
 | 0, i, j, h, hj => by
  obtain ⟨j', rfl⟩ : ∃ j', j = j' + 1 := ⟨j - 1, by omega⟩
  have : i = xs.length := by omega
  subst this; rw [he, List.drop_length]; rfl
 | m + 1, i, j, h, hj => by
  obtain ⟨j', rfl⟩ : ∃ j', j = j' + 1 := ⟨j - 1, by omega⟩
  have hlt : i < xs.length := by omega
  rw [hs j' i hlt, drop_cons z hlt, List.findIdx?_cons, idx_gen L xs z f hs he m (i + 1) j' (by omega) (by omega)]
  cases f (xs.getD i z) with
  | true => simp
  | false =>
   simp only [cond_false, Bool.false_eq_true, if_false]
   cases (xs.drop (i + 1)).findIdx? f with
   | none => rfl
   | some n => simp only [Option.map_some]; congr 4; omega
theorem idx_all (L : Nat → Int → Option ((Int × Unit) × Unit)) (xs : List α) (z : α) (f : α → Bool)
  (hs : ∀ (j n : Nat), n < xs.length → L (j + 1) (n : Int) = bif f (xs.getD n z) then some (((n : Int), ()), ()) else L j ((n + 1 : Nat) : Int))
  (he : ∀ j, L (j + 1) (xs.length : Int) = some ((-1, ()), ())) (j : Nat) (hj : xs.length < j) : L j 0 = some ((idxI f xs, ()), ()) := by
 have := idx_gen L xs z f hs he xs.length 0 j (by omega) hj
 rw [List.drop_zero] at this
 simpa [idxI] using this
theorem idx_ge (f : α → Bool) (s : List α) : decide (idxI f s ≥ 0) = s.any f := by
 unfold idxI
 cases h : s.findIdx? f with
 | none => rw [List.findIdx?_eq_none_iff] at h; simp; intro x hx; simpa using h x hx
 | some n =>
  have h2 := List.findIdx?_isSome (xs := s) (p := f)
  rw [h] at h2
  rw [← h2]; simp
theorem any_gen (L : Nat → Int → Option R) (xs : List α) (z : α) (f : α → Bool) (yes no : Option R)
  (hs : ∀ (j n : Nat), n < xs.length → L (j + 1) (n : Int) = bif f (xs.getD n z) then yes else L j ((n + 1 : Nat) : Int))
  (he : ∀ j, L (j + 1) (xs.length : Int) = no) : ∀ (m i j : Nat), i + m = xs.length → m < j → L j i = bif (xs.drop i).any f then yes else no
 | 0, i, j, h, hj => by
  obtain ⟨j', rfl⟩ : ∃ j', j = j' + 1 := ⟨j - 1, by omega⟩
  have : i = xs.length := by omega
  subst this; rw [he, List.drop_length]; rfl
 | m + 1, i, j, h, hj => by
  obtain ⟨j', rfl⟩ : ∃ j', j = j' + 1 := ⟨j - 1, by omega⟩
  have hlt : i < xs.length := by omega
  rw [hs j' i hlt, drop_cons z hlt, List.any_cons, any_gen L xs z f yes no hs he m (i + 1) j' (by omega) (by omega)]
  cases f (xs.getD i z) <;> rfl
theorem any_all (L : Nat → Int → Option R) (xs : List α) (z : α) (f : α → Bool) (yes no : Option R)
  (hs : ∀ (j n : Nat), n < xs.length → L (j + 1) (n : Int) = bif f (xs.getD n z) then yes else L j ((n + 1 : Nat) : Int))
  (he : ∀ j, L (j + 1) (xs.length : Int) = no) (j : Nat) (hj : xs.length < j) : L j 0 = bif xs.any f then yes else no := by
 have := any_gen L xs z f yes no hs he xs.length 0 j (by omega) hj
 rwa [List.drop_zero] at this
def anyF (f : Nat → Bool) : Nat → Nat → Bool
 | 0, _ => false
 | m + 1, i => f i || anyF f m (i + 1)
theorem anyF_iff (f : Nat → Bool) : ∀ (m i : Nat), anyF f m i = true ↔ ∃ n, i ≤ n ∧ n < i + m ∧ f n = true
 | 0, i => ⟨fun h => by simp [anyF] at h, fun ⟨n, h1, h2, _⟩ => by omega⟩
 | m + 1, i => by
  rw [anyF, Bool.or_eq_true, anyF_iff f m (i + 1)]
  constructor
  ·rintro (h | ⟨n, h1, h2, h3⟩)
   ·exact ⟨i, by omega, by omega, h⟩
   ·exact ⟨n, by omega, by omega, h3⟩
  ·rintro ⟨n, h1, h2, h3⟩
   by_cases e : n = i
   ·subst e; exact .inl h3
   ·exact .inr ⟨n, by omega, by omega, h3⟩
theorem anyF_none (f : Nat → Bool) (m i : Nat) : anyF f m i = false ↔ ∀ n, i ≤ n → n < i + m → f n = false := by
 constructor
 ·intro h n h1 h2
  cases hf : f n with
  | false => rfl
  | true => rw [(anyF_iff f m i).2 ⟨n, h1, h2, hf⟩] at h; cases h
 ·intro h
  cases ha : anyF f m i with
  | false => rfl
  | true => obtain ⟨n, h1, h2, h3⟩ := (anyF_iff f m i).1 ha; rw [h n h1 h2] at h3; cases h3
theorem anyN {L : Nat → Int → Option R} {n : Nat} (f : Nat → Bool) (yes no : Option R)
  (hs : ∀ (j i : Nat), i < n → L (j + 1) (i : Int) = bif f i then yes else L j ((i + 1 : Nat) : Int))
  (he : ∀ j, L (j + 1) (n : Int) = no) : ∀ (m i j : Nat), i + m = n → m < j → L j i = bif anyF f m i then yes else no
 | 0, i, j, h, hj => by
  obtain ⟨j', rfl⟩ : ∃ j', j = j' + 1 := ⟨j - 1, by omega⟩
  have : i = n := by omega
  subst this; rw [he]; rfl
 | m + 1, i, j, h, hj => by
  obtain ⟨j', rfl⟩ : ∃ j', j = j' + 1 := ⟨j - 1, by omega⟩
  rw [hs j' i (by omega), anyF, anyN f yes no hs he m (i + 1) j' (by omega) (by omega)]
  cases f i <;> rfl
theorem plist_len : ∀ (n : Nat) (x : PN α n), (plist n x).length = n
 | 0, _ => rfl
 | 1, _ => rfl
 | n + 2, x => by simp only [plist, List.length_cons]; rw [plist_len (n + 1) x.2]
theorem plist_prep : ∀ (n : Nat) (v : α), plist n (prep n v) = List.replicate n v
 | 0, _ => rfl
 | 1, _ => rfl
 | n + 2, v => by simp only [plist, prep]; rw [plist_prep (n + 1) v]; rfl
theorem plist_inj : ∀ (n : Nat) (x y : PN α n), plist n x = plist n y → x = y
 | 0, _, _, _ => rfl
 | 1, x, y, h => by simpa [plist] using h
 | n + 2, x, y, h => by
  simp only [plist, List.cons.injEq] at h
  exact Prod.ext h.1 (plist_inj (n + 1) x.2 y.2 h.2)
theorem plist_setF : ∀ (n i : Nat) (x : PN α n) (j : Nat) (v : α), i ≤ j → plist n (asetF n i x (j : Int) v) = (plist n x).set (j - i) v
 | 0, _, _, _, _, _ => rfl
 | 1, i, x, j, v, h => by
  simp only [plist, asetF]
  by_cases e : j = i
  ·subst e; simp
  ·rw [if_neg (by omega)]
   have : j - i = (j - i - 1) + 1 := by omega
   rw [this]; rfl
 | n + 2, i, x, j, v, h => by
  simp only [plist, asetF]
  by_cases e : j = i
  ·subst e
   simp only [if_true, Nat.sub_self, List.set_cons_zero, List.cons.injEq, true_and]
   exact plist_setF_lt (n + 1) (j + 1) x.2 j v (by omega)
  ·rw [if_neg (by omega), plist_setF (n + 1) (i + 1) x.2 j v (by omega), show j - i = (j - (i + 1)) + 1 by omega, List.set_cons_succ]
where plist_setF_lt : ∀ (n i : Nat) (x : PN α n) (j : Nat) (v : α), j < i → plist n (asetF n i x (j : Int) v) = plist n x
 | 0, _, _, _, _, _ => rfl
 | 1, i, x, j, v, h => by simp only [plist, asetF]; rw [if_neg (by omega)]
 | n + 2, i, x, j, v, h => by simp only [plist, asetF]; rw [if_neg (by omega), plist_setF_lt (n + 1) (i + 1) x.2 j v (by omega)]
theorem plist_set {n : Nat} {x : PN α n} {j : Nat} {v : α} : plist n (aset n x (j : Int) v) = (plist n x).set j v := by
 unfold aset; rw [plist_setF n 0 x j v (by omega)]; rfl
end
end Go.Proofs.YteflacbgobpmcaaGreat.Ab

/- Which instructions may be; areas: both answers are one. -/
namespace Go.Proofs.YteflacbgobpmcaaGreat.Ab
open Go.RowKit
set_option linter.unusedSimpArgs false
set_option linter.unusedVariables false
def memI (a : Int) : Bool := decide (a ≥ 0) && decide (a < 8)
def witI (v a b : Int) : Bool := decide (v ≥ a) && decide (v ≤ b)
def mayI (i : I4) : Bool :=
 bif i.1 == 0 then (i.2.1 == 0 && (i.2.2.1 == 0 && i.2.2.2 == 0))
 else bif i.1 == 11 then (i.2.1 == 0 && (i.2.2.1 == 0 && i.2.2.2 == 0))
 else bif i.1 == 1 then (memI i.2.1 && (i.2.2.1 == 0 && witI i.2.2.2 (-2147483648) 2147483647))
 else bif i.1 == 2 then (memI i.2.1 && (memI i.2.2.1 && i.2.2.2 == 0))
 else bif i.1 == 3 then (memI i.2.1 && (memI i.2.2.1 && i.2.2.2 == 0))
 else bif i.1 == 4 then (memI i.2.1 && (memI i.2.2.1 && i.2.2.2 == 0))
 else bif i.1 == 5 then (memI i.2.1 && (i.2.2.1 == 0 && witI i.2.2.2 (-63) 63))
 else bif i.1 == 6 then (memI i.2.1 && (i.2.2.1 == 0 && witI i.2.2.2 1 64))
 else bif i.1 == 7 then (memI i.2.1 && (i.2.2.1 == 0 && witI i.2.2.2 1 24))
 else bif i.1 == 8 then (i.2.1 == 0 && (witI i.2.2.1 1 24 && witI i.2.2.2 1 20))
 else bif i.1 == 9 then (witI i.2.1 0 3 && (i.2.2.1 == 0 && i.2.2.2 == 0))
 else bif i.1 == 10 then (witI i.2.1 0 3 && (i.2.2.1 == 0 && i.2.2.2 == 0))
 else false
theorem S110_eq (k : Nat) (a : Int) : S110 k a = some ((memI a, ()), ()) := by unfold S110 memI; rw [bsel, bsel_f]
theorem S157_eq (k : Nat) (a : Int) : S157 k 8 a = some ((memI a, ()), ()) := by unfold S157 memI; rw [bsel, bsel_f]
theorem S111_eq (k : Nat) (v a b : Int) : S111 k v a b = some ((witI v a b, ()), ()) := by unfold S111 witI; rw [bsel, bsel_f]
theorem S64_eq (k : Nat) (i : I4) : S64 k i = some ((mayI i, ()), ()) := by
 unfold mayI S64
 simp only [S110_eq, S111_eq, Option.bind_some, bsel, bsel_f]
theorem S120_eq (k : Nat) (i : I4) : S120 k i = some ((mayI i, ()), ()) := by
 unfold mayI S120 witI
 simp only [S157_eq, Option.bind_some, bsel, bsel_f, bassoc, Bool.and_assoc, le_lt _ 2147483647 2147483648 rfl, le_lt _ 3 4 rfl]
theorem S65_eq {k : Nat} (hk : 1000 ≤ k) {s : List I4} (h : s.length ≤ 900) : S65 k s = some ((idxI (fun i => !mayI i) s, ()), ()) := by
 unfold S65
 refine idx_all (fun j i => L65_2 k j s (s.length : Int) i) s i0 _ (fun j i hi => ?_) (fun j => ?_) k (by omega)
 ·show L65_2 k (j + 1) s (s.length : Int) (i : Int) = _
  rw [L65_2_s, l65_2, bif_t (by omega), ix_nat hi, w64_nat (by omega)]
  simp only [S63, S64_eq, Option.bind_some, rd_nat]
 ·show L65_2 k (j + 1) s (s.length : Int) (s.length : Int) = _
  rw [L65_2_s, l65_2, bif_f (by omega)]
theorem S62_eq {k : Nat} (hk : 1000 ≤ k) {s : List I4} (h : s.length ≤ 900) : S62 k s = some ((s.any (fun i => !mayI i), ()), ()) := by
 unfold S62; rw [S65_eq hk h]; simp only [Option.bind_some, idx_ge]
theorem S65a_eq {k : Nat} (hk : 1000 ≤ k) {s : List I4} (h : s.length ≤ 900) : S65a k s = some ((idxI (fun i => i.1 == 0) s, ()), ()) := by
 unfold S65a
 refine idx_all (fun j i => L65a_2 k j s (s.length : Int) i) s i0 _ (fun j i hi => ?_) (fun j => ?_) k (by omega)
 ·show L65a_2 k (j + 1) s (s.length : Int) (i : Int) = _
  rw [L65a_2_s, l65a_2, bif_t (by omega), ix_nat hi, w64_nat (by omega)]
  simp only [S66, Option.bind_some, rd_nat]
 ·show L65a_2 k (j + 1) s (s.length : Int) (s.length : Int) = _
  rw [L65a_2_s, l65a_2, bif_f (by omega)]
theorem S118_eq {k : Nat} (hk : 1000 ≤ k) {s : List Int} (h : s.length ≤ 900) : S118 k s = some ((idxI (fun i => decide (i > 2)) s, ()), ()) := by
 unfold S118
 refine idx_all (fun j i => L118_2 k j s (s.length : Int) i) s 0 _ (fun j i hi => ?_) (fun j => ?_) k (by omega)
 ·show L118_2 k (j + 1) s (s.length : Int) (i : Int) = _
  rw [L118_2_s, l118_2, bif_t (by omega), ix_nat hi, w64_nat (by omega)]
  simp only [S116, Option.bind_some, rd_nat]
  rfl
 ·show L118_2 k (j + 1) s (s.length : Int) (s.length : Int) = _
  rw [L118_2_s, l118_2, bif_f (by omega)]
theorem S70_eq {k : Nat} (hk : 1000 ≤ k) {s : List Int} (h : s.length ≤ 900) : S70 k s = some ((s.any (fun i => decide (i > 2)), ()), ()) := by
 unfold S70; rw [S118_eq hk h]; simp only [Option.bind_some, idx_ge]
theorem S70b_eq {k : Nat} (hk : 1000 ≤ k) {s : List Int} {x : Int} (h : s.length ≤ 900) : S70b k s x = some ((s.any (fun e => decide (e > x)), ()), ()) := by
 unfold S70b S118b
 rw [show L118b_2 k k s x (s.length : Int) 0 = some ((idxI (fun e => decide (e > x)) s, ()), ()) from
  idx_all (fun j i => L118b_2 k j s x (s.length : Int) i) s 0 _ (fun j i hi => by
   show L118b_2 k (j + 1) s x (s.length : Int) (i : Int) = _
   rw [L118b_2_s, l118b_2, bif_t (by omega), ix_nat hi, w64_nat (by omega)]
   simp only [S71, Option.bind_some, rd_nat]
   rfl) (fun j => by
   show L118b_2 k (j + 1) s x (s.length : Int) (s.length : Int) = _
   rw [L118b_2_s, l118b_2, bif_f (by omega)]) k (by omega)]
 simp only [Option.bind_some, idx_ge]
def sameS (l : List I4) (open_ : List Int) (x : Int) : Bool := open_.any (fun i => (rd l i i0).2.1 == (rd l x i0).2.1)
theorem S70a_eq {k : Nat} (hk : 1000 ≤ k) {s : List Int} {l : List I4} {x : Int} (h : s.length ≤ 900) (hs : ∀ i ∈ s, 0 ≤ i ∧ i < (l.length : Int)) (hx : 0 ≤ x ∧ x < (l.length : Int)) : S70a k s l x = some ((sameS l s x, ()), ()) := by
 unfold S70a S118a
 rw [show L118a_2 k k s l x (s.length : Int) 0 = some ((idxI (fun i => (rd l i i0).2.1 == (rd l x i0).2.1) s, ()), ()) from
  idx_all (fun j i => L118a_2 k j s l x (s.length : Int) i) s 0 _ (fun j i hi => by
   show L118a_2 k (j + 1) s l x (s.length : Int) (i : Int) = _
   have := hs _ (getD_mem (z := 0) hi)
   rw [L118a_2_s, l118a_2, bif_t (by omega), ix_nat hi, w64_nat (by omega), rd_nat, S117, ix_ok this.1 this.2, ix_ok hx.1 hx.2]
   rfl) (fun j => by
   show L118a_2 k (j + 1) s l x (s.length : Int) (s.length : Int) = _
   rw [L118a_2_s, l118a_2, bif_f (by omega)]) k (by omega)]
 simp only [Option.bind_some, idx_ge, sameS]
end Go.Proofs.YteflacbgobpmcaaGreat.Ab

/- Areas, how they stand to each other, and which instruction is in which: the program's answers told. -/
namespace Go.Proofs.YteflacbgobpmcaaGreat.Ab
open Go.RowKit
set_option linter.unusedSimpArgs false
set_option linter.unusedVariables false
def pc (i : Nat) (x : I4) : List (Int × Int × Int × Bool) :=
 bif x.1 == 8 then [(((i + 1 : Nat) : Int), IntKind.i64.wrap ((i : Int) + x.2.2.1), (i : Int), true)]
 else bif x.1 == 7 then [(((i + 1 : Nat) : Int), IntKind.i64.wrap ((i : Int) + x.2.2.2), (i : Int), false)] else []
def pcs : Nat → List (I4) → List (Int × Int × Int × Bool)
 | _, [] => []
 | i, x :: r => pc i x ++ pcs (i + 1) r
theorem pc_len (i : Nat) (x : I4) : (pc i x).length ≤ 1 := by unfold pc; cases x.1 == 8 <;> cases x.1 == 7 <;> simp
theorem pcs_len : ∀ (l : List (I4)) (i : Nat), (pcs i l).length ≤ l.length
 | [], _ => by simp [pcs]
 | x :: r, i => by have := pc_len i x; have := pcs_len r (i + 1); simp only [pcs, List.length_append, List.length_cons]; omega
theorem areas_any (l : List (I4)) (hl : l.length ≤ 900) (L : Nat → List (Int × Int × Int × Bool) → Int → Option ((List (Int × Int × Int × Bool) × Unit) × Unit))
  (hs : ∀ j out (i : Nat), i < l.length → out.length ≤ i → L (j + 1) out i = L j (out ++ pc i (l.getD i (0, 0, 0, 0))) ((i + 1 : Nat) : Int))
  (he : ∀ j out, L (j + 1) out (l.length : Int) = some ((out, ()), ())) : ∀ (m i j : Nat) (out : List (Int × Int × Int × Bool)), i + m = l.length → m < j → out.length ≤ i → L j out i = some ((out ++ pcs i (l.drop i), ()), ())
 | 0, i, j, out, h, hj, ho => by
  obtain ⟨j', rfl⟩ : ∃ j', j = j' + 1 := ⟨j - 1, by omega⟩
  have : i = l.length := by omega
  subst this
  rw [he, List.drop_length]
  simp [pcs]
 | m + 1, i, j, out, h, hj, ho => by
  obtain ⟨j', rfl⟩ : ∃ j', j = j' + 1 := ⟨j - 1, by omega⟩
  have hlt : i < l.length := by omega
  have hp := pc_len i (l.getD i (0, 0, 0, 0))
  rw [hs j' out i hlt ho, areas_any l hl L hs he m (i + 1) j' _ (by omega) (by omega) (by simp only [List.length_append]; omega), List.drop_eq_getElem_cons hlt]
  have : l.getD i (0, 0, 0, 0) = l[i] := by simp [List.getD_eq_getElem?_getD, hlt]
  rw [this, pcs, List.append_assoc]
theorem S112_eq {k : Nat} {l : List (I4)} (hk : 1000 ≤ k) (h : l.length ≤ 900) : S112 k l = some ((pcs 0 l, ()), ()) := by
 have := areas_any l h (fun j out i => L112_2 k j out l (l.length : Int) i)
  (fun j out i hi ho => by
   show L112_2 k (j + 1) out l (l.length : Int) (i : Int) = _
   rw [L112_2_s, l112_2, bif_t (by omega), ix_nat hi, w64_nat (by omega), rd_nat, pc]
   cases h8 : (l.getD i (0, 0, 0, 0)).1 == 8 with
   | true => simp only [cond_true]; rw [ap_ok (by simp only [List.length_cons, List.length_nil]; omega)]
   | false =>
    cases h7 : (l.getD i (0, 0, 0, 0)).1 == 7 with
    | true => simp only [cond_true, cond_false]; rw [ap_ok (by simp only [List.length_cons, List.length_nil]; omega)]
    | false => simp only [cond_false, List.append_nil])
  (fun j out => by
   show L112_2 k (j + 1) out l (l.length : Int) (l.length : Int) = _
   rw [L112_2_s, l112_2, bif_f (by omega)])
  l.length 0 k [] (by omega) (by omega) (by simp)
 unfold S112
 simpa using this
theorem S121_eq {k : Nat} {l : List (I4)} (hk : 1000 ≤ k) (h : l.length ≤ 900) : S121 k l = some ((pcs 0 l, ()), ()) := by
 have := areas_any l h (fun j out i => L121_3 k j l out i)
  (fun j out i hi ho => by
   show L121_3 k (j + 1) l out (i : Int) = _
   rw [L121_3_s, l121_3, bif_t (by omega), ix_nat hi, w64_nat (by omega), rd_nat, pc]
   cases h8 : (l.getD i (0, 0, 0, 0)).1 == 8 with
   | true =>
    have h7 : ((l.getD i (0, 0, 0, 0)).1 == 7) = false := by rw [eq_of_beq h8]; rfl
    rw [h7]
    simp only [cond_true, cond_false]
    rw [ix_nat hi, ap_ok (by simp only [List.length_cons, List.length_nil]; omega)]
   | false =>
    cases h7 : (l.getD i (0, 0, 0, 0)).1 == 7 with
    | true => simp only [cond_true, cond_false]; rw [ix_nat hi, ap_ok (by simp only [List.length_cons, List.length_nil]; omega)]
    | false => simp only [cond_false, List.append_nil])
  (fun j out => by
   show L121_3 k (j + 1) l out (l.length : Int) = _
   rw [L121_3_s, l121_3, bif_f (by omega)])
  l.length 0 k [] (by omega) (by omega) (by simp)
 unfold S121
 simpa using this
abbrev Ar : Type := Int × Int × Int × Bool
def hasA (p : Ar) (i : Int) : Bool := decide (p.1 ≤ i) && decide (i ≤ p.2.1)
def inA (p q : Ar) : Bool := hasA q p.1 && hasA q p.2.1
def apA (p q : Ar) : Bool := decide (p.2.1 < q.1) || decide (q.2.1 < p.1)
def badA (p q : Ar) : Bool := (hasA q p.2.2.1 && !inA p q) || (!apA p q && (!inA p q && !inA q p))
theorem S113_eq (k : Nat) (p : Ar) (i : Int) : S113 k p i = some ((hasA p i, ()), ()) := by
 unfold S113 hasA; rw [bsel]; cases h : decide (p.1 ≤ i) <;> simp_all
theorem S122_eq (k : Nat) (p : Ar) (i : Int) : S122 k p i = some ((hasA p i, ()), ()) := by
 unfold S122 hasA; rw [bsel]; cases h : decide (p.1 ≤ i) <;> simp_all
theorem S114_eq (k : Nat) (p q : Ar) : S114 k p q = some ((inA p q, ()), ()) := by
 unfold S114 inA; simp only [S113_eq, Option.bind_some, bsel]; cases hasA q p.1 <;> rfl
theorem S115_eq (k : Nat) (p q : Ar) : S115 k p q = some ((apA p q, ()), ()) := by
 unfold S115 apA; simp only [bsel]; cases decide (p.2.1 < q.1) <;> rfl
theorem L67_9_eq {k : Nat} {g4 : List (I4) → List Ar → List Int → List Ar → Int → Int → Option ((Bool × Unit) × Unit)} {l : List (I4)} {all1 all : List Ar} {ar : List Int} {p : Ar} {t15 : List Ar} {t16 t17 : Int} (hl : all.length ≤ 900) :
  ∀ (m i j : Nat), i + m = all.length → m < j → L67_9 k g4 j l all1 ar p.1 p.2.1 p.2.2.1 p.2.2.2 t15 t16 t17 all (all.length : Int) i =
   bif (all.drop i).any (badA p) then some ((false, ()), ()) else L67_15 k g4 k l all1 ar p.1 p.2.1 p.2.2.1 p.2.2.2 p.1 t15 t16 t17
 | 0, i, j, h, hj => by
  obtain ⟨j', rfl⟩ : ∃ j', j = j' + 1 := ⟨j - 1, by omega⟩
  have : i = all.length := by omega
  subst this
  rw [L67_9_s, l67_9, bif_f (by omega), List.drop_length]
  rfl
 | m + 1, i, j, h, hj => by
  obtain ⟨j', rfl⟩ : ∃ j', j = j' + 1 := ⟨j - 1, by omega⟩
  have hi : i < all.length := by omega
  rw [L67_9_s, l67_9, bif_t (by omega), ix_nat hi, w64_nat (by omega), rd_nat, L67_9_eq hl m (i + 1) j' (by omega) (by omega), List.drop_eq_getElem_cons hi, List.any_cons]
  have : all.getD i (0, 0, 0, false) = all[i] := by simp [List.getD_eq_getElem?_getD, hi]
  rw [this]
  simp only [S113_eq, S114_eq, S115_eq, Option.bind_some, badA]
  cases hasA all[i] p.2.2.1 <;> cases inA p all[i] <;> cases apA p all[i] <;> cases inA all[i] p <;> rfl
def bumps : List Int → Nat → Nat → List Int
 | ar, _, 0 => ar
 | ar, i, m + 1 => bumps (ar.set i (IntKind.i64.wrap (ar.getD i 0 + 1))) (i + 1) m
theorem L67_15_f {k : Nat} {g4 : List (I4) → List Ar → List Int → List Ar → Int → Int → Option ((Bool × Unit) × Unit)} {l : List (I4)} {all : List Ar} {ar : List Int} {p4 p5 p6 : Int} {t15 : List Ar} {t16 t17 i : Int} (j : Nat) (hj : 1 ≤ j) :
  L67_15 k g4 j l all ar p4 p5 p6 false i t15 t16 t17 = g4 l all ar t15 t16 (IntKind.i64.wrap (t17 + 1)) := by
 obtain ⟨j', rfl⟩ : ∃ j', j = j' + 1 := ⟨j - 1, by omega⟩
 rw [L67_15_s, l67_15]; rfl
theorem L67_15_t {k : Nat} {g4 : List (I4) → List Ar → List Int → List Ar → Int → Int → Option ((Bool × Unit) × Unit)} {l : List (I4)} {all : List Ar} {p4 p5 p6 : Int} {t15 : List Ar} {t16 t17 : Int} :
  ∀ (m i j : Nat) (ar : List Int), ((p5 + 1 = (i : Int) + m) ∨ (m = 0 ∧ p5 < i)) → i + m ≤ ar.length → ar.length ≤ 900 → m < j →
   L67_15 k g4 j l all ar p4 p5 p6 true i t15 t16 t17 = g4 l all (bumps ar i m) t15 t16 (IntKind.i64.wrap (t17 + 1))
 | 0, i, j, ar, h, hl, hl9, hj => by
  obtain ⟨j', rfl⟩ : ∃ j', j = j' + 1 := ⟨j - 1, by omega⟩
  rw [L67_15_s, l67_15, bif_f (by omega)]
  rfl
 | m + 1, i, j, ar, h, hl, hl9, hj => by
  obtain ⟨j', rfl⟩ : ∃ j', j = j' + 1 := ⟨j - 1, by omega⟩
  have hi : i < ar.length := by omega
  rw [L67_15_s, l67_15, bif_t (by omega), ix_nat hi, ix_nat hi, w64_nat (by omega), rd_nat, upd_nat, L67_15_t m (i + 1) j' _ (by omega) (by simp only [List.length_set]; omega) (by simp only [List.length_set]; omega) (by omega)]
  rfl
def nest (L1 : Int) (all : List Ar) : List Ar → List Int → Bool
 | [], ar => !ar.any (fun i => decide (i > 2))
 | p :: r, ar => bif decide (p.2.1 ≥ L1) then false else bif all.any (badA p) then false else nest L1 all r (bif p.2.2.2 then bumps ar p.1.toNat (p.2.1 + 1 - p.1).toNat else ar)
theorem bumps_len : ∀ (m i : Nat) (ar : List Int), (bumps ar i m).length = ar.length
 | 0, _, _ => rfl
 | m + 1, i, ar => by rw [bumps, bumps_len m]; simp
theorem L67_4_eq {k : Nat} (hk : 1000 ≤ k) {l : List (I4)} {all : List Ar} (hl : l.length ≤ 900) (ha : all.length ≤ 900) (hp : ∀ p ∈ all, 0 ≤ p.1 ∧ p.1 ≤ l.length) : ∀ (m i j : Nat) (ar : List Int), i + m = all.length → m < j → ar.length = l.length →
  L67_4 k j l all ar all (all.length : Int) i = some ((nest (IntKind.i64.wrap ((l.length : Int) - 1)) all (all.drop i) ar, ()), ())
 | 0, i, j, ar, h, hj, har => by
  obtain ⟨j', rfl⟩ : ∃ j', j = j' + 1 := ⟨j - 1, by omega⟩
  have : i = all.length := by omega
  subst this
  rw [L67_4_s, l67_4, bif_f (by omega), List.drop_length, S70_eq hk (by omega)]
  rfl
 | m + 1, i, j, ar, h, hj, har => by
  obtain ⟨j', rfl⟩ : ∃ j', j = j' + 1 := ⟨j - 1, by omega⟩
  have hi : i < all.length := by omega
  have hq : all.getD i (0, 0, 0, false) = all[i] := by simp [List.getD_eq_getElem?_getD, hi]
  rw [L67_4_s, l67_4, bif_t (by omega), ix_nat hi, rd_nat, hq, List.drop_eq_getElem_cons hi, nest]
  have hb := hp all[i] (List.getElem_mem hi)
  cases h1 : decide (all[i].2.1 ≥ IntKind.i64.wrap ((l.length : Int) - 1)) with
  | true => rfl
  | false =>
   have h1' := of_decide_eq_false h1
   rw [w64 (by omega) (by omega)] at h1'
   have h9 := L67_9_eq (k := k) (g4 := L67_4 k j') (l := l) (all1 := all) (all := all) (ar := ar) (p := all[i]) (t15 := all) (t16 := (all.length : Int)) (t17 := (i : Int)) ha all.length 0 k (by omega) (by omega)
   simp only [cond_false]
   refine Eq.trans h9 ?_
   rw [List.drop_zero]
   cases h2 : all.any (badA all[i]) with
   | true => rfl
   | false =>
    simp only [cond_false]
    cases h3 : all[i].2.2.2 with
    | false =>
     rw [L67_15_f k (by omega), w64_nat (by omega), L67_4_eq hk hl ha hp m (i + 1) j' ar (by omega) (by omega) har]
     rfl
    | true =>
     obtain ⟨n, hn⟩ : ∃ n : Nat, all[i].1 = (n : Int) := ⟨all[i].1.toNat, by omega⟩
     rw [hn, L67_15_t (all[i].2.1 + 1 - (n : Int)).toNat n k ar (by omega) (by omega) (by omega) (by omega), w64_nat (by omega), L67_4_eq hk hl ha hp m (i + 1) j' _ (by omega) (by omega) (by rw [bumps_len]; exact har)]
     rfl
theorem pcs_mem : ∀ (l : List (I4)) (i : Nat) (p : Ar), p ∈ pcs i l → ∃ n : Nat, i ≤ n ∧ n < i + l.length ∧ p.2.2.1 = (n : Int) ∧ p.1 = ((n + 1 : Nat) : Int) ∧ ∃ x, l[n - i]? = some x ∧ p ∈ pc n x
 | [], _, _, h => by cases h
 | x :: r, i, p, h => by
  rw [pcs] at h
  rcases List.mem_append.1 h with h | h
  ·refine ⟨i, by omega, by simp, ?_, ?_, x, by simp, h⟩
   all_goals
    unfold pc at h
    cases h8 : x.1 == 8 <;> cases h7 : x.1 == 7 <;> simp only [h8, h7, cond_true, cond_false, List.mem_singleton, List.not_mem_nil] at h <;> first | (subst h; rfl) | exact h.elim
  ·obtain ⟨n, h1, h2, h3, h4, y, h5, h6⟩ := pcs_mem r (i + 1) p h
   refine ⟨n, by omega, by simp only [List.length_cons]; omega, h3, h4, y, ?_, h6⟩
   rw [show n - i = (n - (i + 1)) + 1 by omega, List.getElem?_cons_succ]
   exact h5
theorem S67_eq {k : Nat} (hk : 1000 ≤ k) {l : List (I4)} (hl : l.length ≤ 900) : S67 k l = some ((nest (IntKind.i64.wrap ((l.length : Int) - 1)) (pcs 0 l) (pcs 0 l) (List.replicate l.length 0), ()), ()) := by
 unfold S67
 have h1 := pcs_len l 0
 rw [S112_eq hk hl, Option.bind_some, mk_ok (by omega) (by simp; omega)]
 have := L67_4_eq hk (l := l) (all := pcs 0 l) hl (by omega) (fun p hp => by
  obtain ⟨n, _, h2, _, h4, _⟩ := pcs_mem l 0 p hp
  omega) (pcs 0 l).length 0 k (List.replicate l.length 0) (by omega) (by omega) (by simp)
 rw [List.drop_zero] at this
 exact this
def marks (n : Nat) (p : Ar) : List (PN Bool 24) → Nat → Nat → List (PN Bool 24)
 | out, _, 0 => out
 | out, i, m + 1 => marks n p (bif hasA p (i : Int) then out.set i (aset (α := Bool) 24 (out.getD i (prep (α := Bool) 24 false)) (n : Int) true) else out) (i + 1) m
theorem L69_6_eq {k : Nat} {g3 : List (I4) → List (PN Bool 24) → List Ar → Int → Int → Option ((List (PN Bool 24) × Unit) × Unit)} {l : List (I4)} {n : Nat} {p : Ar} {t11 : List Ar} {t12 t13 : Int} {len : Nat} (hn : n < 24) (hl : len ≤ 900) :
  ∀ (m i j : Nat) (out : List (PN Bool 24)), i + m = len → m < j → out.length = len →
   L69_6 k g3 j l out (n : Int) p.1 p.2.1 p.2.2.1 p.2.2.2 t11 t12 t13 (len : Int) i = g3 l (marks n p out i m) t11 t12 (IntKind.i64.wrap (t13 + 1))
 | 0, i, j, out, h, hj, ho => by
  obtain ⟨j', rfl⟩ : ∃ j', j = j' + 1 := ⟨j - 1, by omega⟩
  rw [L69_6_s, l69_6, bif_f (by omega)]
  rfl
 | m + 1, i, j, out, h, hj, ho => by
  obtain ⟨j', rfl⟩ : ∃ j', j = j' + 1 := ⟨j - 1, by omega⟩
  rw [L69_6_s, l69_6, bif_t (by omega), bif_t (by omega), w64_nat (by omega), marks]
  have : (p.1, p.2.1, p.2.2.1, p.2.2.2) = p := rfl
  rw [this, S113_eq, Option.bind_some]
  cases hh : hasA p (i : Int) with
  | true =>
   simp only [cond_true]
   rw [ix_nat (by omega), ax_ok (by omega) (by omega), upd_nat, rd_nat, L69_6_eq hn hl m (i + 1) j' _ (by omega) (by omega) (by simp only [List.length_set]; exact ho)]
  | false =>
   simp only [cond_false]
   rw [L69_6_eq hn hl m (i + 1) j' _ (by omega) (by omega) ho]
theorem marks_len (n : Nat) (p : Ar) : ∀ (m i : Nat) (out : List (PN Bool 24)), (marks n p out i m).length = out.length
 | 0, _, _ => rfl
 | m + 1, i, out => by rw [marks, marks_len n p m]; cases hasA p (i : Int) <;> simp
def mkAll (len : Nat) : Nat → List Ar → List (PN Bool 24) → List (PN Bool 24)
 | _, [], out => out
 | n, p :: r, out => mkAll len (n + 1) r (marks n p out 0 len)
theorem L69_3_eq {k : Nat} (hk : 1000 ≤ k) {l : List (I4)} {all : List Ar} (hl : l.length ≤ 900) (ha : all.length ≤ 24) : ∀ (m n j : Nat) (out : List (PN Bool 24)), n + m = all.length → m < j → out.length = l.length →
  L69_3 k j l out all (all.length : Int) n = some ((mkAll l.length n (all.drop n) out, ()), ())
 | 0, n, j, out, h, hj, ho => by
  obtain ⟨j', rfl⟩ : ∃ j', j = j' + 1 := ⟨j - 1, by omega⟩
  have : n = all.length := by omega
  subst this
  rw [L69_3_s, l69_3, bif_f (by omega), List.drop_length]
  rfl
 | m + 1, n, j, out, h, hj, ho => by
  obtain ⟨j', rfl⟩ : ∃ j', j = j' + 1 := ⟨j - 1, by omega⟩
  have hi : n < all.length := by omega
  have hq : all.getD n (0, 0, 0, false) = all[n] := by simp [List.getD_eq_getElem?_getD, hi]
  rw [L69_3_s, l69_3, bif_t (by omega), ix_nat hi, rd_nat, hq, List.drop_eq_getElem_cons hi, mkAll]
  refine Eq.trans (L69_6_eq (k := k) (g3 := L69_3 k j') (p := all[n]) (t11 := all) (t12 := (all.length : Int)) (t13 := (n : Int)) (by omega) hl l.length 0 k out (by omega) (by omega) ho) ?_
  rw [w64_nat (by omega), L69_3_eq hk hl ha m (n + 1) j' _ (by omega) (by omega) (by rw [marks_len]; exact ho)]
theorem S69_eq {k : Nat} (hk : 1000 ≤ k) {l : List (I4)} (hl : l.length ≤ 24) : S69 k l = some ((mkAll l.length 0 (pcs 0 l) (List.replicate l.length (prep (α := Bool) 24 false)), ()), ()) := by
 unfold S69
 have h1 := pcs_len l 0
 rw [mk_ok (by omega) (by simp; omega), S112_eq hk (by omega), Option.bind_some]
 have := L69_3_eq hk (l := l) (all := pcs 0 l) (by omega) (by omega) (pcs 0 l).length 0 k (List.replicate l.length (prep (α := Bool) 24 false)) (by omega) (by omega) (by simp)
 rw [List.drop_zero] at this
 exact this
end Go.Proofs.YteflacbgobpmcaaGreat.Ab

/- Which instruction is in which area, as bits; maps; pairs as the program has them. -/
namespace Go.Proofs.YteflacbgobpmcaaGreat.Ab
open Go.RowKit
set_option linter.unusedSimpArgs false
set_option linter.unusedVariables false
abbrev z24 : PN Bool 24 := prep (α := Bool) 24 false
def bitAt (out : List (PN Bool 24)) (j n : Nat) : Bool := (plist 24 (out.getD j z24)).getD n false
theorem bitAt_zero (m j n : Nat) : bitAt (List.replicate m z24) j n = false := by
 unfold bitAt
 have : (List.replicate m z24).getD j z24 = z24 := by
  rw [List.getD_eq_getElem?_getD, List.getElem?_replicate]; split <;> rfl
 rw [this, plist_prep, List.getD_eq_getElem?_getD, List.getElem?_replicate]; split <;> rfl
theorem bitAt_set {out : List (PN Bool 24)} {i j n n' : Nat} (hi : i < out.length) (hn : n < 24) :
  bitAt (out.set i (aset (α := Bool) 24 (out.getD i z24) (n : Int) true)) j n' = (decide (i = j ∧ n = n') || bitAt out j n') := by
 unfold bitAt
 rw [set_get]
 by_cases h : i = j
 ·subst h
  rw [if_pos ⟨rfl, hi⟩, plist_set, set_get, plist_len]
  by_cases h2 : n = n'
  ·subst h2; simp [hn]
  ·simp [h2]
 ·rw [if_neg (fun h2 => h h2.1)]; simp [h]
theorem bitAt_marks {n : Nat} {p : Ar} (hn : n < 24) : ∀ (m i : Nat) (out : List (PN Bool 24)) (j n' : Nat), i + m ≤ out.length →
  bitAt (marks n p out i m) j n' = (decide (i ≤ j ∧ j < i + m ∧ n = n') && hasA p (j : Int) || bitAt out j n')
 | 0, i, out, j, n', _ => by
  rw [marks]
  have : decide (i ≤ j ∧ j < i + 0 ∧ n = n') = false := decide_eq_false (by omega)
  rw [this]; rfl
 | m + 1, i, out, j, n', h => by
  rw [marks]
  have hlen : (bif hasA p (i : Int) then out.set i (aset (α := Bool) 24 (out.getD i z24) (n : Int) true) else out).length = out.length := by cases hasA p (i : Int) <;> simp
  rw [bitAt_marks hn m (i + 1) _ j n' (by rw [hlen]; omega)]
  cases hh : hasA p (i : Int) with
  | true =>
   simp only [cond_true]
   rw [bitAt_set (by omega) hn]
   by_cases e : i = j
   ·subst e
    by_cases e2 : n = n'
    ·subst e2; simp [hh]
    ·simp [e2]
   ·have e1 : decide (i = j ∧ n = n') = false := decide_eq_false (fun h => e h.1)
    have e2 : decide (i + 1 ≤ j ∧ j < i + 1 + m ∧ n = n') = decide (i ≤ j ∧ j < i + (m + 1) ∧ n = n') := by congr 1; exact propext ⟨fun h => by omega, fun h => by omega⟩
    rw [e1, e2]; simp
  | false =>
   simp only [cond_false]
   by_cases e : i = j
   ·subst e
    simp only [hh, Bool.and_false]
   ·have e2 : decide (i + 1 ≤ j ∧ j < i + 1 + m ∧ n = n') = decide (i ≤ j ∧ j < i + (m + 1) ∧ n = n') := by congr 1; exact propext ⟨fun h => by omega, fun h => by omega⟩
    rw [e2]
theorem bitAt_mkAll {len : Nat} : ∀ (ps : List Ar) (n : Nat) (out : List (PN Bool 24)) (j n' : Nat), out.length = len → n + ps.length ≤ 24 → j < len →
  bitAt (mkAll len n ps out) j n' = (decide (n ≤ n' ∧ n' < n + ps.length) && hasA (ps.getD (n' - n) (0, 0, 0, false)) (j : Int) || bitAt out j n')
 | [], n, out, j, n', _, _, _ => by
  rw [mkAll]
  have : decide (n ≤ n' ∧ n' < n + ([] : List Ar).length) = false := decide_eq_false (by simp)
  rw [this]; rfl
 | p :: r, n, out, j, n', ho, hn, hj => by
  simp only [List.length_cons] at hn
  rw [mkAll, bitAt_mkAll r (n + 1) _ j n' (by rw [marks_len]; exact ho) (by omega) hj, bitAt_marks (by omega) _ _ _ _ _ (by omega)]
  by_cases e : n = n'
  ·subst e
   have e1 : decide (n + 1 ≤ n ∧ n < n + 1 + r.length) = false := decide_eq_false (by omega)
   have e2 : decide (0 ≤ j ∧ j < 0 + len ∧ n = n) = true := decide_eq_true ⟨by omega, by omega, rfl⟩
   have e3 : decide (n ≤ n ∧ n < n + (p :: r).length) = true := decide_eq_true ⟨by omega, by simp⟩
   rw [e1, e2, e3]; simp
  ·have e2 : decide (0 ≤ j ∧ j < 0 + len ∧ n = n') = false := decide_eq_false (fun h => e h.2.2)
   rw [e2]
   by_cases h : n + 1 ≤ n'
   ·have : n' - n = (n' - (n + 1)) + 1 := by omega
    rw [this, List.getD_cons_succ]
    have e3 : decide (n + 1 ≤ n' ∧ n' < n + 1 + r.length) = decide (n ≤ n' ∧ n' < n + (p :: r).length) := by congr 1; exact propext ⟨fun h => by simp only [List.length_cons]; omega, fun h => by simp only [List.length_cons] at h; omega⟩
    rw [e3]; simp
   ·have e3 : decide (n + 1 ≤ n' ∧ n' < n + 1 + r.length) = false := decide_eq_false (by omega)
    have e4 : decide (n ≤ n' ∧ n' < n + (p :: r).length) = false := decide_eq_false (by omega)
    rw [e3, e4]; simp
def AI (l : List I4) : List (PN Bool 24) := mkAll l.length 0 (pcs 0 l) (List.replicate l.length z24)
theorem mkAll_len (len : Nat) : ∀ (ps : List Ar) (n : Nat) (out : List (PN Bool 24)), (mkAll len n ps out).length = out.length
 | [], _, _ => rfl
 | p :: r, n, out => by rw [mkAll, mkAll_len len r, marks_len]
theorem AI_len (l : List I4) : (AI l).length = l.length := by unfold AI; rw [mkAll_len]; simp
theorem AI_bit {l : List I4} (hl : l.length ≤ 24) {j n : Nat} (hj : j < l.length) : bitAt (AI l) j n = (decide (n < (pcs 0 l).length) && hasA ((pcs 0 l).getD n (0, 0, 0, false)) (j : Int)) := by
 unfold AI
 have := pcs_len l 0
 rw [bitAt_mkAll _ 0 _ j n (by simp) (by omega) hj, bitAt_zero, Bool.or_false]
 congr 2
 simp
def sepA (l : List I4) (i j : Int) : Bool := (pcs 0 l).any (fun p => hasA p i != hasA p j)
theorem AI_eq {l : List I4} (hl : l.length ≤ 24) {i j : Nat} (hi : i < l.length) (hj : j < l.length) : ((AI l).getD i z24 = (AI l).getD j z24) ↔ sepA l i j = false := by
 constructor
 ·intro h
  unfold sepA
  rw [List.any_eq_false]
  intro p hp
  obtain ⟨n, hn, rfl⟩ := mem_getD (0, 0, 0, false) hp
  have h1 := AI_bit hl hi (n := n)
  have h2 := AI_bit hl hj (n := n)
  unfold bitAt at h1 h2
  rw [h] at h1
  rw [h1] at h2
  simp only [hn, decide_true, Bool.true_and] at h2
  rw [h2]; simp
 ·intro h
  unfold sepA at h
  rw [List.any_eq_false] at h
  apply plist_inj
  apply List.ext_getElem (by rw [plist_len, plist_len])
  intro n h1 h2
  have e1 := AI_bit hl hi (n := n)
  have e2 := AI_bit hl hj (n := n)
  unfold bitAt at e1 e2
  rw [getD_in h1] at e1
  rw [getD_in h2] at e2
  rw [e1, e2]
  by_cases hn : n < (pcs 0 l).length
  ·have := h _ (getD_mem (z := (0, 0, 0, false)) hn)
   simp only [bne_iff_ne, ne_eq, Decidable.not_not] at this
   rw [this]
  ·simp [hn]
theorem AI_zero {l : List I4} (hl : l.length ≤ 24) {i : Nat} (hi : i < l.length) : ((AI l).getD i z24 = z24) ↔ (pcs 0 l).any (fun p => hasA p i) = false := by
 constructor
 ·intro h
  rw [List.any_eq_false]
  intro p hp
  obtain ⟨n, hn, rfl⟩ := mem_getD (0, 0, 0, false) hp
  have h1 := AI_bit hl hi (n := n)
  unfold bitAt at h1
  rw [h, plist_prep] at h1
  simp only [hn, decide_true, Bool.true_and] at h1
  rw [← h1, List.getD_eq_getElem?_getD, List.getElem?_replicate]; split <;> simp
 ·intro h
  rw [List.any_eq_false] at h
  apply plist_inj
  apply List.ext_getElem (by rw [plist_len, plist_len])
  intro n h1 h2
  have e1 := AI_bit hl hi (n := n)
  unfold bitAt at e1
  rw [getD_in h1] at e1
  have e2 : (plist 24 z24)[n] = false := by
   have : plist 24 z24 = List.replicate 24 false := plist_prep 24 false
   rw [List.getElem_of_eq this, List.getElem_replicate]
  rw [e1, e2]
  by_cases hn : n < (pcs 0 l).length
  ·have := h _ (getD_mem (z := (0, 0, 0, false)) hn)
   simpa [hn] using this
  ·simp [hn]
/-! ### maps of whole numbers by rows of bits -/
theorem beqD_bits : ∀ (n : Nat) (a b : (arrT n .bool).D), beqD (arrT n .bool) a b = true ↔ a = b
 | 0, _, _ => ⟨fun _ => rfl, fun _ => rfl⟩
 | 1, a, b => by
  show (a == b) = true ↔ a = b
  exact beq_iff_eq
 | n + 2, a, b => by
  show (a.1 == b.1 && beqD (arrT (n + 1) .bool) a.2 b.2) = true ↔ a = b
  rw [Bool.and_eq_true, beqD_bits (n + 1) a.2 b.2, beq_iff_eq]
  exact ⟨fun h => Prod.ext h.1 h.2, fun h => by subst h; exact ⟨rfl, rfl⟩⟩
section
variable {tk tv : Ty} (hb : ∀ a b : tk.D, beqD tk a b = true ↔ a = b)
include hb
theorem lookD_upd (d e : tk.D) (v : tv.D) : ∀ (es : List (tk.D × tv.D)), lookD tk tv e (updD tk tv d v es) = if beqD tk e d = true then some v else lookD tk tv e es
 | [] => by
  simp only [updD, lookD]
  cases beqD tk e d <;> rfl
 | x :: r => by
  simp only [updD]
  cases h : beqD tk d x.1 with
  | true =>
   have := (hb _ _).1 h
   simp only [lookD]
   rw [← this]
   cases beqD tk e d <;> rfl
  | false =>
   simp only [lookD]
   rw [lookD_upd d e v r]
   cases h2 : beqD tk e x.1 with
   | true =>
    have h3 := (hb _ _).1 h2
    subst h3
    cases h4 : beqD tk x.1 d with
    | true =>
     have h5 := (hb _ _).1 h4
     rw [← h5, (hb _ _).2 rfl] at h
     cases h
    | false => rfl
   | false => rfl
end
end Go.Proofs.YteflacbgobpmcaaGreat.Ab

/- Pairs, as the program has them. -/
namespace Go.Proofs.YteflacbgobpmcaaGreat.Ab
open Go.RowKit
set_option linter.unusedSimpArgs false
set_option linter.unusedVariables false
def prStep (l : List I4) (i : Nat) (s : List Int × List Int) : Option (List Int × List Int) :=
 if (l.getD i i0).1 = 9 then (if 2 ≤ s.2.length ∨ sameS l s.2 i = true then none else some (s.1, s.2 ++ [(i : Int)]))
 else if (l.getD i i0).1 = 10 then
  (match s.2.getLast? with
  | none => none
  | some k => if (rd l k i0).2.1 ≠ (l.getD i i0).2.1 ∨ sepA l k.toNat i = true then none else some (upd s.1 k i, s.2.dropLast))
 else some s
def prGo (l : List I4) : Nat → Nat → List Int × List Int → Option (List Int × List Int)
 | 0, _, s => some s
 | m + 1, i, s => (prStep l i s).bind (prGo l m (i + 1))
def prs (l : List I4) : Option (List Int) := match prGo l l.length 0 (List.replicate l.length 0, []) with
 | some (out, []) => some out
 | _ => none
def prOut : Option (List Int) → Option ((List Int × Bool × Unit) × Unit)
 | some out => some ((out, true, ()), ())
 | none => some (([], false, ()), ())
def prInv (l : List I4) (i : Nat) (s : List Int × List Int) : Prop := s.1.length = l.length ∧ s.2.length ≤ 2 ∧ ∀ k ∈ s.2, 0 ≤ k ∧ k < (i : Int)
theorem prStep_inv {l : List I4} {i : Nat} {s s' : List Int × List Int} (hv : prInv l i s) (h : prStep l i s = some s') : prInv l (i + 1) s' := by
 obtain ⟨h1, h2, h3⟩ := hv
 unfold prStep at h
 split at h
 ·split at h
  ·cases h
  ·rename_i hn
   injection h with h; subst h
   refine ⟨h1, ?_, ?_⟩
   ·simp only [List.length_append, List.length_cons, List.length_nil]; omega
   ·intro k hk
    rcases List.mem_append.1 hk with hk | hk
    ·have := h3 k hk; omega
    ·have := List.mem_singleton.1 hk; omega
 ·split at h
  ·split at h
   ·cases h
   ·split at h
    ·cases h
    ·injection h with h; subst h
     refine ⟨by rw [upd_len]; exact h1, ?_, ?_⟩
     ·simp only [List.length_dropLast]; omega
     ·intro k hk
      have := h3 k ((List.dropLast_sublist _).subset hk); omega
  ·injection h with h; subst h
   exact ⟨h1, h2, fun k hk => by have := h3 k hk; omega⟩
def mpInv (l : List I4) (i : Nat) (same : List (PN Bool 24 × Int)) : Prop :=
 (∀ key v, lookD (arrT 24 .bool) (.int .i64) key same = some v → ∃ j : Nat, j < i ∧ v = (j : Int) ∧ (AI l).getD j z24 = key) ∧
 ∀ j, j < i → ∃ v, lookD (arrT 24 .bool) (.int .i64) ((AI l).getD j z24) same = some v
def mpStep (l : List I4) (i : Nat) (same : List (PN Bool 24 × Int)) : List (PN Bool 24 × Int) :=
 bif !(mhas (arrT 24 .bool) (.int .i64) ((AI l).getD i z24) same) then updD (arrT 24 .bool) (.int .i64) ((AI l).getD i z24) (i : Int) same else same
theorem mpStep_inv {l : List I4} {i : Nat} {same : List (PN Bool 24 × Int)} (h : mpInv l i same) : mpInv l (i + 1) (mpStep l i same) := by
 obtain ⟨h1, h2⟩ := h
 unfold mpStep mhas
 cases hl : lookD (arrT 24 .bool) (.int .i64) ((AI l).getD i z24) same with
 | some v =>
  simp only [isNone, Bool.not_false, Bool.not_true, cond_false]
  refine ⟨fun key v hk => ?_, fun j hj => ?_⟩
  ·obtain ⟨j, h3, h4⟩ := h1 key v hk
   exact ⟨j, by omega, h4⟩
  ·by_cases e : j = i
   ·subst e; exact ⟨v, hl⟩
   ·exact h2 j (by omega)
 | none =>
  simp only [isNone, Bool.not_true, Bool.not_false, cond_true]
  refine ⟨fun key v hk => ?_, fun j hj => ?_⟩
  ·rw [lookD_upd (beqD_bits 24)] at hk
   split at hk
   ·rename_i hb
    injection hk with hk
    exact ⟨i, by omega, hk.symm, ((beqD_bits 24 _ _).1 hb).symm⟩
   ·obtain ⟨j, h3, h4⟩ := h1 key v hk
    exact ⟨j, by omega, h4⟩
  ·rw [lookD_upd (beqD_bits 24)]
   split
   ·exact ⟨_, rfl⟩
   ·rename_i hb
    by_cases e : j = i
    ·subst e; exact absurd ((beqD_bits 24 _ _).2 rfl) hb
    ·exact h2 j (by omega)
theorem mp_ne {l : List I4} (hl : l.length ≤ 24) {i k n : Nat} {same : List (PN Bool 24 × Int)} (h : mpInv l n same) (hi : i < n) (hk : k < n) (hn : n ≤ l.length) :
  (mget (arrT 24 .bool) (.int .i64) ((AI l).getD k z24) same 0 != mget (arrT 24 .bool) (.int .i64) ((AI l).getD i z24) same 0) = sepA l k i := by
 obtain ⟨h1, h2⟩ := h
 obtain ⟨v, hv⟩ := h2 k hk
 obtain ⟨w, hw⟩ := h2 i hi
 obtain ⟨a, ha, rfl, ha2⟩ := h1 _ _ hv
 obtain ⟨b, hb, rfl, hb2⟩ := h1 _ _ hw
 unfold mget
 rw [hv, hw]
 have := AI_eq hl (i := k) (j := i) (by omega) (by omega)
 cases hs : sepA l k i with
 | false =>
  have e := this.2 hs
  rw [e, hw] at hv
  injection hv with hv
  simp [hv]
 | true =>
  simp only [bne_iff_ne, ne_eq]
  intro e
  have e : (a : Int) = (b : Int) := e
  have e : a = b := by omega
  subst e
  rw [ha2] at hb2
  rw [this.1 hb2] at hs
  cases hs
theorem L68_3_eq {k : Nat} (hk : 1000 ≤ k) {l : List I4} (hl : l.length ≤ 24) : ∀ (m i j : Nat) (s : List Int × List Int) (same : List (PN Bool 24 × Int)), i + m = l.length → m < j → prInv l i s → mpInv l i same →
  L68_3 k j l s.1 s.2 same (AI l) (AI l) (l.length : Int) i = prOut (match prGo l m i s with | some (out, []) => some out | _ => none)
 | 0, i, j, s, same, h, hj, hv, hm => by
  obtain ⟨j', rfl⟩ : ∃ j', j = j' + 1 := ⟨j - 1, by omega⟩
  obtain ⟨out, open_⟩ := s
  rw [L68_3_s, l68_3, bif_f (by omega)]
  cases open_ with
  | nil => rfl
  | cons x r => rw [bif_t (by simp only [List.length_cons]; omega)]; rfl
 | m + 1, i, j, s, same, h, hj, hv, hm => by
  obtain ⟨j', rfl⟩ : ∃ j', j = j' + 1 := ⟨j - 1, by omega⟩
  have hi : i < l.length := by omega
  have hm' := mpStep_inv hm
  have ih := L68_3_eq hk hl m (i + 1) j'
  have key : L68_3 k (j' + 1) l s.1 s.2 same (AI l) (AI l) (l.length : Int) i = j68_8 k (fun l_1 out open_ same all t20 t21 t22 => L68_3 k j' l_1 out open_ same all t20 t21 t22) l s.1 s.2 (mpStep l i same) (AI l) (i : Int)
   ((AI l).getD i z24).1 ((AI l).getD i z24).2.1 ((AI l).getD i z24).2.2.1 ((AI l).getD i z24).2.2.2.1 ((AI l).getD i z24).2.2.2.2.1 ((AI l).getD i z24).2.2.2.2.2.1 ((AI l).getD i z24).2.2.2.2.2.2.1 ((AI l).getD i z24).2.2.2.2.2.2.2.1 ((AI l).getD i z24).2.2.2.2.2.2.2.2.1 ((AI l).getD i z24).2.2.2.2.2.2.2.2.2.1 ((AI l).getD i z24).2.2.2.2.2.2.2.2.2.2.1 ((AI l).getD i z24).2.2.2.2.2.2.2.2.2.2.2.1 ((AI l).getD i z24).2.2.2.2.2.2.2.2.2.2.2.2.1 ((AI l).getD i z24).2.2.2.2.2.2.2.2.2.2.2.2.2.1 ((AI l).getD i z24).2.2.2.2.2.2.2.2.2.2.2.2.2.2.1 ((AI l).getD i z24).2.2.2.2.2.2.2.2.2.2.2.2.2.2.2.1 ((AI l).getD i z24).2.2.2.2.2.2.2.2.2.2.2.2.2.2.2.2.1 ((AI l).getD i z24).2.2.2.2.2.2.2.2.2.2.2.2.2.2.2.2.2.1 ((AI l).getD i z24).2.2.2.2.2.2.2.2.2.2.2.2.2.2.2.2.2.2.1 ((AI l).getD i z24).2.2.2.2.2.2.2.2.2.2.2.2.2.2.2.2.2.2.2.1 ((AI l).getD i z24).2.2.2.2.2.2.2.2.2.2.2.2.2.2.2.2.2.2.2.2.1 ((AI l).getD i z24).2.2.2.2.2.2.2.2.2.2.2.2.2.2.2.2.2.2.2.2.2.1 ((AI l).getD i z24).2.2.2.2.2.2.2.2.2.2.2.2.2.2.2.2.2.2.2.2.2.2.1 ((AI l).getD i z24).2.2.2.2.2.2.2.2.2.2.2.2.2.2.2.2.2.2.2.2.2.2.2 (AI l) (l.length : Int) (i : Int) := by
   rw [L68_3_s, l68_3, bif_t (by omega), ix_nat (by rw [AI_len]; omega), rd_nat]
   unfold mpStep
   cases mhas (arrT 24 .bool) (.int .i64) ((AI l).getD i z24) same <;> rfl
  rw [key, j68_8]
  obtain ⟨out, open_⟩ := s
  obtain ⟨hv1, hv2, hv3⟩ := hv
  simp only at hv1 hv2 hv3 ⊢
  rw [ix_nat hi, rd_nat, prGo]
  cases h9 : (l.getD i i0).1 == 9 with
  | true =>
   have h9' := eq_of_beq h9
   by_cases h2 : 2 ≤ open_.length
   ·have : prStep l i (out, open_) = none := by unfold prStep; rw [if_pos h9', if_pos (.inl h2)]
    rw [this, cond_true, bif_t (by omega)]; rfl
   ·rw [cond_true, bif_f (by omega), S70a_eq hk (by omega) (fun k hk => by have := hv3 k hk; omega) (by omega), Option.bind_some]
    cases hs : sameS l open_ i with
    | true =>
     have : prStep l i (out, open_) = none := by unfold prStep; rw [if_pos h9', if_pos (.inr hs)]
     rw [this]; rfl
    | false =>
     have hp : prStep l i (out, open_) = some (out, open_ ++ [(i : Int)]) := by unfold prStep; rw [if_pos h9', if_neg (by rw [hs]; simp; omega)]
     have := ih (out, open_ ++ [(i : Int)]) (mpStep l i same) (by omega) (by omega) (prStep_inv ⟨hv1, hv2, hv3⟩ hp) hm'
     rw [hp, Option.bind_some, ← this]
     simp only [cond_false]
     rw [ap_ok (by simp only [List.length_cons, List.length_nil]; omega), w64_nat (by omega)]
  | false =>
   have h9' : (l.getD i i0).1 ≠ 9 := by intro e; rw [e] at h9; cases h9
   simp only [cond_false]
   cases h10 : (l.getD i i0).1 == 10 with
   | true =>
    have h10' := eq_of_beq h10
    simp only [cond_true]
    have hstep : prStep l i (out, open_) = (match open_.getLast? with
     | none => none
     | some k => if (rd l k i0).2.1 ≠ (l.getD i i0).2.1 ∨ sepA l k.toNat i = true then none else some (upd out k i, open_.dropLast)) := by
     unfold prStep; rw [if_neg h9', if_pos h10']
    rw [w64 (by omega) (by omega)]
    rcases List.eq_nil_or_concat open_ with rfl | ⟨r, x, rfl⟩
    ·rw [hstep]; rfl
    ·rw [List.concat_eq_append] at *
     have hlast : (r ++ [x]).getLast? = some x := by simp
     rw [hlast] at hstep
     have hx := hv3 x (by simp)
     obtain ⟨n, rfl⟩ : ∃ n : Nat, x = (n : Int) := ⟨x.toNat, by omega⟩
     have hlen : (((r ++ [(n : Int)]).length : Int) - 1) = (r.length : Int) := by simp only [List.length_append, List.length_cons, List.length_nil]; omega
     have hrd : rd (r ++ [(n : Int)]) (r.length : Int) 0 = (n : Int) := by rw [rd_nat, List.getD_eq_getElem?_getD]; simp
     rw [hlen, bif_f (by omega), ix_ok (by omega) (by simp only [List.length_append, List.length_cons, List.length_nil]; omega), hrd, ix_nat (by omega), ix_nat hi, rd_nat]
     simp only [rd_nat, Int.toNat_natCast] at hstep
     cases hA : (l.getD n i0).2.1 != (l.getD i i0).2.1 with
     | true =>
      have hp : prStep l i (out, r ++ [(n : Int)]) = none := by rw [hstep]; exact if_pos (.inl (by simpa using hA))
      rw [hp]; rfl
     | false =>
      rw [cond_false, ix_ok (by omega) (by simp only [List.length_append, List.length_cons, List.length_nil]; omega), ix_nat (by rw [AI_len]; omega), rd_nat]
      have hmp := mp_ne hl hm' (i := i) (k := n) (by omega) (by omega) (by omega)
      have hA' : ¬ (l.getD n i0).2.1 ≠ (l.getD i i0).2.1 := by simpa using hA
      rw [show (mget (arrT 24 .bool) (.int .i64) ((AI l).getD n z24) (mpStep l i same) 0 != mget (arrT 24 .bool) (.int .i64) (((AI l).getD i z24).1, ((AI l).getD i z24).2) (mpStep l i same) 0) = sepA l n i from hmp]
      cases hs : sepA l n i with
      | true =>
       have hp : prStep l i (out, r ++ [(n : Int)]) = none := by rw [hstep]; exact if_pos (.inr hs)
       rw [hp]; rfl
      | false =>
       have hp : prStep l i (out, r ++ [(n : Int)]) = some (upd out (n : Int) (i : Int), r) := by rw [hstep]; refine (if_neg ?_).trans (by simp); rintro (h | h); exact hA' h; rw [show sepA l n i = true from h] at hs; cases hs
       have := ih (upd out (n : Int) (i : Int), r) (mpStep l i same) (by omega) (by omega) (prStep_inv ⟨hv1, hv2, hv3⟩ hp) hm'
       rw [hp, Option.bind_some, ← this, cond_false, ix_ok (by omega) (by simp only [List.length_append, List.length_cons, List.length_nil]; omega), ix_nat (by omega), sx_ok (by omega) (by omega) (by simp only [List.length_append, List.length_cons, List.length_nil]; omega), w64_nat (by omega)]
       have : (r ++ [(n : Int)]).take (r.length : Int).toNat = r := by simp
       rw [this]
   | false =>
    have h10' : (l.getD i i0).1 ≠ 10 := by intro e; rw [e] at h10; cases h10
    have hp : prStep l i (out, open_) = some (out, open_) := by unfold prStep; rw [if_neg h9', if_neg h10']
    have := ih (out, open_) (mpStep l i same) (by omega) (by omega) (prStep_inv ⟨hv1, hv2, hv3⟩ hp) hm'
    rw [hp, Option.bind_some, ← this, cond_false, w64_nat (by omega)]
theorem S68_eq {k : Nat} (hk : 1000 ≤ k) {l : List I4} (hl : l.length ≤ 24) : S68 k l = prOut (prs l) := by
 unfold S68
 rw [mk_ok (by omega) (by omega), S69_eq hk hl, Option.bind_some]
 have := L68_3_eq hk hl l.length 0 k (List.replicate l.length 0, []) [] (by omega) (by omega) ⟨by simp, by simp, by simp⟩ ⟨fun key v h => by simp [lookD] at h, fun j h => absurd h (by omega)⟩
 unfold prs
 rw [← this]
 have : (AI l).length = l.length := AI_len l
 unfold AI at this ⊢
 simp only [this, Int.toNat_natCast]
 rfl
end Go.Proofs.YteflacbgobpmcaaGreat.Ab

/- Which programs may be, as the program has it. -/
namespace Go.Proofs.YteflacbgobpmcaaGreat.Ab
open Go.RowKit
set_option linter.unusedSimpArgs false
set_option linter.unusedVariables false
def mkBad (l : List I4) (ps : List Int) (i : Nat) : Bool := (l.getD i i0).1 == 11 && ((pcs 0 l).any (fun p => hasA p i) || (ps.take i).any (fun e => decide (e > (i : Int))))
def mayA (l : List I4) : Bool :=
 decide (1 ≤ l.length) && (decide (l.length ≤ 24) && (!l.any (fun i => !mayI i) && (idxI (fun i => i.1 == 0) l == (l.length : Int) - 1 &&
  (nest ((l.length : Int) - 1) (pcs 0 l) (pcs 0 l) (List.replicate l.length 0) &&
  (match prs l with | none => false | some ps => !anyF (mkBad l ps) l.length 0)))))
theorem prGo_len {l : List I4} : ∀ (m i : Nat) (s s' : List Int × List Int), prGo l m i s = some s' → s'.1.length = s.1.length
 | 0, i, s, s', h => by injection h with h; subst h; rfl
 | m + 1, i, s, s', h => by
  rw [prGo, Option.bind_eq_some_iff] at h
  obtain ⟨t, h1, h2⟩ := h
  rw [prGo_len m (i + 1) t s' h2]
  unfold prStep at h1
  split at h1
  ·split at h1
   ·cases h1
   ·injection h1 with h1; subst h1; rfl
  ·split at h1
   ·split at h1
    ·cases h1
    ·split at h1
     ·cases h1
     ·injection h1 with h1; subst h1; simp only [upd_len]
   ·injection h1 with h1; subst h1; rfl
theorem prs_go {l : List I4} {ps : List Int} (h : prs l = some ps) : prGo l l.length 0 (List.replicate l.length 0, []) = some (ps, []) := by
 unfold prs at h
 split at h
 ·rename_i out hg; injection h with h; subst h; exact hg
 ·cases h
theorem prs_len {l : List I4} {ps : List Int} (h : prs l = some ps) : ps.length = l.length := by
 have := prGo_len _ _ _ _ (prs_go h)
 simpa using this
theorem L34_11_eq {k : Nat} (hk : 1000 ≤ k) {l : List I4} (hl : l.length ≤ 24) {ps : List Int} (hp : ps.length = l.length) :
  L34_11 k k ps (AI l) l (l.length : Int) 0 = some ((!anyF (mkBad l ps) l.length 0, ()), ()) := by
 have := anyN (L := fun j i => L34_11 k j ps (AI l) l (l.length : Int) i) (n := l.length) (mkBad l ps) (some ((false, ()), ())) (some ((true, ()), ())) (fun j i hi => by
  show L34_11 k (j + 1) ps (AI l) l (l.length : Int) (i : Int) = _
  rw [L34_11_s, l34_11, bif_t (by omega), ix_nat hi, rd_nat, w64_nat (by omega)]
  unfold mkBad
  cases h11 : (l.getD i i0).1 == 11 with
  | false =>
   have : ((l.getD i i0).1 != 11) = true := by simp only [bne, h11]; rfl
   rw [this]; rfl
  | true =>
   have : ((l.getD i i0).1 != 11) = false := by simp only [bne, h11]; rfl
   rw [this, cond_false, ix_nat (by rw [AI_len]; exact hi), rd_nat]
   have hz : beqD (arrT 24 .bool) ((AI l).getD i z24) z24 = !(pcs 0 l).any (fun p => hasA p i) := by
    have h1 := AI_zero hl hi
    have h2 := beqD_bits 24 ((AI l).getD i z24) z24
    cases hb : beqD (arrT 24 .bool) ((AI l).getD i z24) z24 with
    | true => rw [h1.1 (h2.1 hb)]; rfl
    | false =>
     cases ha : (pcs 0 l).any (fun p => hasA p i) with
     | true => rfl
     | false => rw [h2.2 (h1.2 ha)] at hb; cases hb
   have hz' : beqD (arrT 24 .bool) ((AI l).getD i z24) (false, false, false, false, false, false, false, false, false, false, false, false, false, false, false, false, false, false, false, false, false, false, false, false) = !(pcs 0 l).any (fun p => hasA p i) := hz
   rw [hz']
   cases ha : (pcs 0 l).any (fun p => hasA p i) with
   | true => rfl
   | false =>
    simp only [Bool.not_false, Bool.not_true, cond_false, Bool.false_or, Bool.true_and]
    rw [sx_ok (by omega) (by omega) (by omega)]
    have : sub ps 0 (i : Int) = ps.take i := by simp [sub]
    rw [this, S70b_eq hk (by simp; omega), Option.bind_some])
  (fun j => by
   show L34_11 k (j + 1) ps (AI l) l (l.length : Int) (l.length : Int) = _
   rw [L34_11_s, l34_11, bif_f (by omega)]) l.length 0 k (by omega) (by omega)
 refine Eq.trans this ?_
 cases anyF (mkBad l ps) l.length 0 <;> rfl
theorem S34_eq {k : Nat} (hk : 1000 ≤ k) {l : List I4} (hl : l.length ≤ 900) : S34 k l = some ((mayA l, ()), ()) := by
 unfold S34 mayA
 by_cases h1 : 1 ≤ l.length
 ·rw [bif_f (by omega), decide_eq_true h1]
  by_cases h2 : l.length ≤ 24
  ·rw [bif_f (by omega), decide_eq_true h2, S62_eq hk hl, Option.bind_some]
   cases h3 : l.any (fun i => !mayI i) with
   | true => rfl
   | false =>
    simp only [cond_false]
    rw [S65a_eq hk hl, Option.bind_some, w64 (by omega) (by omega)]
    cases h4 : idxI (fun i => i.1 == 0) l == (l.length : Int) - 1 with
    | false => simp only [bne, h4]; rfl
    | true =>
     simp only [bne, h4, Bool.not_true, cond_false]
     rw [S67_eq hk hl, Option.bind_some, w64 (by omega) (by omega)]
     cases h5 : nest ((l.length : Int) - 1) (pcs 0 l) (pcs 0 l) (List.replicate l.length 0) with
     | false => rfl
     | true =>
      simp only [Bool.not_true, cond_false]
      rw [S68_eq hk h2]
      cases h6 : prs l with
      | none => rfl
      | some ps =>
       simp only [prOut, Option.bind_some, Bool.not_true, cond_false]
       rw [S69_eq hk h2, Option.bind_some]
       have := L34_11_eq hk h2 (prs_len h6)
       unfold AI at this
       rw [this]; rfl
  ·rw [bif_t (by omega), decide_eq_false h2]; rfl
 ·rw [bif_t (by omega), decide_eq_false h1]; rfl
end Go.Proofs.YteflacbgobpmcaaGreat.Ab

/- Pairs, and which programs may be, as the document has them. -/
namespace Go.Proofs.YteflacbgobpmcaaGreat.Ab
open Go.RowKit
set_option linter.unusedSimpArgs false
set_option linter.unusedVariables false
abbrev a0 : Ar := (0, 0, 0, false)
theorem L76_10_eq {k : Nat} {g5 : List I4 → List Int → List Int → List Ar → Int → Option ((List Int × Bool × Unit) × Unit)} {l : List I4} {out open_ : List Int} {a : List Ar} {i : Nat} (hi : i < l.length) (ho : open_.length ≤ 900) (hs : ∀ i ∈ open_, 0 ≤ i ∧ i < (l.length : Int)) (hl : l.length ≤ 900) (j : Nat) (hj : open_.length < j) :
  L76_10 k g5 j l out open_ a (i : Int) 0 = bif sameS l open_ i then some (([], false, ()), ()) else
   bif decide (((open_.length : Int) + 1) > 2) then some (([], false, ()), ()) else g5 l out (open_ ++ [(i : Int)]) a ((i + 1 : Nat) : Int) := by
 refine any_all (fun j k' => L76_10 k g5 j l out open_ a (i : Int) k') open_ 0 (fun x => (rd l x i0).2.1 == (rd l i i0).2.1) _ _ (fun j n hn => ?_) (fun j => ?_) j hj
 ·show L76_10 k g5 (j + 1) l out open_ a (i : Int) (n : Int) = _
  have := hs _ (getD_mem (z := 0) hn)
  rw [L76_10_s, l76_10, bif_t (by omega), ix_nat hn, rd_nat, ix_ok this.1 this.2, ix_nat hi, w64_nat (by omega)]
 ·show L76_10 k g5 (j + 1) l out open_ a (i : Int) (open_.length : Int) = _
  rw [L76_10_s, l76_10, bif_f (by omega), ap_ok (by simp only [List.length_cons, List.length_nil]; omega), w64_nat (by omega)]
  have : ((open_ ++ [(i : Int)]).length : Int) = (open_.length : Int) + 1 := by simp
  rw [this]
theorem L76_23_eq {k : Nat} {g5 : List I4 → List Int → List Int → List Ar → Int → Option ((List Int × Bool × Unit) × Unit)} {l : List I4} {out open_ : List Int} {a : List Ar} {i n : Nat} (hn : n < out.length) (hi : i ≤ 900) (ha : a.length ≤ 900) (j : Nat) (hj : a.length < j) :
  L76_23 k g5 j l out open_ a (i : Int) (n : Int) 0 = bif a.any (fun p => hasA p n != hasA p i) then some (([], false, ()), ()) else g5 l (upd out n i) open_ a ((i + 1 : Nat) : Int) := by
 refine any_all (fun j k' => L76_23 k g5 j l out open_ a (i : Int) (n : Int) k') a a0 _ _ _ (fun j m hm => ?_) (fun j => ?_) j hj
 ·show L76_23 k g5 (j + 1) l out open_ a (i : Int) (n : Int) (m : Int) = _
  rw [L76_23_s, l76_23, bif_t (by omega), ix_nat hm, rd_nat, w64_nat (by omega)]
  simp only [S122_eq, Option.bind_some]
  rw [ix_nat hm]; rfl
 ·show L76_23 k g5 (j + 1) l out open_ a (i : Int) (n : Int) (a.length : Int) = _
  rw [L76_23_s, l76_23, bif_f (by omega), ix_nat hn, w64_nat (by omega)]
theorem L76_5_eq {k : Nat} (hk : 1000 ≤ k) {l : List I4} (hl : l.length ≤ 900) : ∀ (m i j : Nat) (s : List Int × List Int), i + m = l.length → m < j → prInv l i s →
  L76_5 k j l s.1 s.2 (pcs 0 l) i = prOut (match prGo l m i s with | some (out, []) => some out | _ => none)
 | 0, i, j, s, h, hj, hv => by
  obtain ⟨j', rfl⟩ : ∃ j', j = j' + 1 := ⟨j - 1, by omega⟩
  obtain ⟨out, open_⟩ := s
  rw [L76_5_s, l76_5, bif_f (by omega)]
  cases open_ with
  | nil => rfl
  | cons x r => rw [bif_t (by simp only [List.length_cons]; omega)]; rfl
 | m + 1, i, j, s, h, hj, hv => by
  obtain ⟨j', rfl⟩ : ∃ j', j = j' + 1 := ⟨j - 1, by omega⟩
  have hi : i < l.length := by omega
  have ih := L76_5_eq hk hl m (i + 1) j'
  have hpl := pcs_len l 0
  rw [L76_5_s, l76_5, bif_t (by omega)]
  obtain ⟨out, open_⟩ := s
  obtain ⟨hv1, hv2, hv3⟩ := hv
  simp only at hv1 hv2 hv3 ⊢
  rw [ix_nat hi, rd_nat, prGo]
  cases h9 : (l.getD i i0).1 == 9 with
  | true =>
   have h9' := eq_of_beq h9
   rw [cond_true]
   refine (L76_10_eq hi (by omega) (fun k hk => by have := hv3 k hk; omega) hl k (by omega)).trans ?_
   cases hs : sameS l open_ i with
   | true =>
    have : prStep l i (out, open_) = none := by unfold prStep; rw [if_pos h9', if_pos (.inr hs)]
    rw [this]; rfl
   | false =>
    rw [cond_false]
    by_cases h2 : 2 ≤ open_.length
    ·have : prStep l i (out, open_) = none := by unfold prStep; rw [if_pos h9', if_pos (.inl h2)]
     rw [this, bif_t (by omega)]; rfl
    ·have hp : prStep l i (out, open_) = some (out, open_ ++ [(i : Int)]) := by unfold prStep; rw [if_pos h9', if_neg (by rw [hs]; simp; omega)]
     rw [hp, Option.bind_some, bif_f (by omega)]
     exact ih (out, open_ ++ [(i : Int)]) (by omega) (by omega) (prStep_inv ⟨hv1, hv2, hv3⟩ hp)
  | false =>
   have h9' : (l.getD i i0).1 ≠ 9 := by intro e; rw [e] at h9; cases h9
   simp only [cond_false]
   cases h10 : (l.getD i i0).1 == 10 with
   | true =>
    have h10' := eq_of_beq h10
    simp only [cond_true]
    have hstep : prStep l i (out, open_) = (match open_.getLast? with
     | none => none
     | some k => if (rd l k i0).2.1 ≠ (l.getD i i0).2.1 ∨ sepA l k.toNat i = true then none else some (upd out k i, open_.dropLast)) := by
     unfold prStep; exact (if_neg h9').trans (if_pos h10')
    rw [w64 (by omega) (by omega)]
    rcases List.eq_nil_or_concat open_ with rfl | ⟨r, x, rfl⟩
    ·rw [hstep]; rfl
    ·rw [List.concat_eq_append] at *
     have hlast : (r ++ [x]).getLast? = some x := by simp
     rw [hlast] at hstep
     have hx := hv3 x (by simp)
     obtain ⟨n, rfl⟩ : ∃ n : Nat, x = (n : Int) := ⟨x.toNat, by omega⟩
     have hlen : (((r ++ [(n : Int)]).length : Int) - 1) = (r.length : Int) := by simp only [List.length_append, List.length_cons, List.length_nil]; omega
     have hlen1 : (((r ++ [(n : Int)]).length : Int) == 0) = false := by
      have : ((r ++ [(n : Int)]).length : Int) ≠ 0 := by simp only [List.length_append, List.length_cons, List.length_nil]; omega
      simpa using this
     have hrd : rd (r ++ [(n : Int)]) (r.length : Int) 0 = (n : Int) := by rw [rd_nat, List.getD_eq_getElem?_getD]; simp
     rw [hlen, hlen1, cond_false, ix_ok (by omega) (by simp only [List.length_append, List.length_cons, List.length_nil]; omega), hrd, ix_nat (by omega), ix_nat hi, rd_nat]
     simp only [rd_nat, Int.toNat_natCast] at hstep
     cases hA : (l.getD n i0).2.1 != (l.getD i i0).2.1 with
     | true =>
      have hp : prStep l i (out, r ++ [(n : Int)]) = none := by rw [hstep]; exact if_pos (.inl (by simpa using hA))
      rw [hp]; rfl
     | false =>
      have hA' : ¬ (l.getD n i0).2.1 ≠ (l.getD i i0).2.1 := by simpa using hA
      rw [cond_false, ix_ok (by omega) (by simp only [List.length_append, List.length_cons, List.length_nil]; omega), sx_ok (by omega) (by omega) (by simp only [List.length_append, List.length_cons, List.length_nil]; omega)]
      have htk : (r ++ [(n : Int)]).take (r.length : Int).toNat = r := by simp
      rw [htk]
      refine (L76_23_eq (by omega) (by omega) (by omega) k (by omega)).trans ?_
      rw [show (pcs 0 l).any (fun p => hasA p n != hasA p i) = sepA l n i from rfl]
      cases hs : sepA l n i with
      | true =>
       have hp : prStep l i (out, r ++ [(n : Int)]) = none := by rw [hstep]; exact if_pos (.inr hs)
       rw [hp]; rfl
      | false =>
       have hp : prStep l i (out, r ++ [(n : Int)]) = some (upd out (n : Int) (i : Int), r) := by rw [hstep]; refine (if_neg ?_).trans (by simp); rintro (h | h); exact hA' h; rw [show sepA l n i = true from h] at hs; cases hs
       rw [hp, Option.bind_some, cond_false]
       exact ih (upd out (n : Int) (i : Int), r) (by omega) (by omega) (prStep_inv ⟨hv1, hv2, hv3⟩ hp)
   | false =>
    have h10' : (l.getD i i0).1 ≠ 10 := by intro e; rw [e] at h10; cases h10
    have hp : prStep l i (out, open_) = some (out, open_) := by unfold prStep; rw [if_neg h9', if_neg h10']
    rw [hp, Option.bind_some, cond_false, w64_nat (by omega)]
    exact ih (out, open_) (by omega) (by omega) (prStep_inv ⟨hv1, hv2, hv3⟩ hp)
theorem S76_eq {k : Nat} (hk : 1000 ≤ k) {l : List I4} (hl : l.length ≤ 900) : S76 k l = prOut (prs l) := by
 unfold S76
 rw [mk_ok (by omega) (by omega), S121_eq hk hl, Option.bind_some]
 exact L76_5_eq hk hl l.length 0 k (List.replicate l.length 0, []) (by omega) (by omega) ⟨by simp, by simp, by simp⟩
def heldN (l : List I4) (ps : List Int) (i : Int) : Nat → Nat → Int → Int
 | 0, _, n => n
 | m + 1, k, n => heldN l ps i m (k + 1) (bif ((l.getD k i0).1 == 9 && (decide ((k : Int) < i) && decide (i < ps.getD k 0))) then n + 1 else n)
theorem heldN_ge (l : List I4) (ps : List Int) (i : Int) : ∀ (m k : Nat) (n : Int), n ≤ heldN l ps i m k n
 | 0, _, n => by simp [heldN]
 | m + 1, k, n => by
  rw [heldN]
  have := heldN_ge l ps i m (k + 1) (bif ((l.getD k i0).1 == 9 && (decide ((k : Int) < i) && decide (i < ps.getD k 0))) then n + 1 else n)
  revert this
  cases ((l.getD k i0).1 == 9 && (decide ((k : Int) < i) && decide (i < ps.getD k 0))) <;> simp only [cond_true, cond_false] <;> omega
theorem heldN_pos (l : List I4) (ps : List Int) (i : Int) : ∀ (m k : Nat) (n : Int), decide (heldN l ps i m k n > n) = anyF (fun k => (l.getD k i0).1 == 9 && (decide ((k : Int) < i) && decide (i < ps.getD k 0))) m k
 | 0, _, n => by simp [heldN, anyF]
 | m + 1, k, n => by
  rw [heldN, anyF]
  cases h : ((l.getD k i0).1 == 9 && (decide ((k : Int) < i) && decide (i < ps.getD k 0))) with
  | true =>
   have := heldN_ge l ps i m (k + 1) (n + 1)
   rw [cond_true, Bool.true_or]
   exact decide_eq_true (by omega)
  | false => rw [cond_false, Bool.false_or]; exact heldN_pos l ps i m (k + 1) n
theorem L123_3_eq {k : Nat} {l : List I4} {ps : List Int} {i : Nat} (hl : l.length ≤ 900) (hp : ps.length = l.length) : ∀ (m n j : Nat) (s : Int), n + m = l.length → m < j → 0 ≤ s → s ≤ n →
  L123_3 k j l ps (i : Int) s n = some ((heldN l ps i m n s, ()), ())
 | 0, n, j, s, h, hj, h0, h1 => by
  obtain ⟨j', rfl⟩ : ∃ j', j = j' + 1 := ⟨j - 1, by omega⟩
  rw [L123_3_s, l123_3, bif_f (by omega)]; rfl
 | m + 1, n, j, s, h, hj, h0, h1 => by
  obtain ⟨j', rfl⟩ : ∃ j', j = j' + 1 := ⟨j - 1, by omega⟩
  rw [L123_3_s, l123_3, bif_t (by omega), ix_nat (by omega), ix_nat (by omega), rd_nat, rd_nat, w64_nat (by omega), w64 (by omega) (by omega), heldN]
  have i1 := L123_3_eq (k := k) (i := i) hl hp m (n + 1) j' (s + 1) (by omega) (by omega) (by omega) (by omega)
  have i2 := L123_3_eq (k := k) (i := i) hl hp m (n + 1) j' s (by omega) (by omega) (by omega) (by omega)
  rw [i1, i2]
  cases (l.getD n i0).1 == 9 <;> cases decide ((n : Int) < (i : Int)) <;> cases decide ((i : Int) < ps.getD n 0) <;> rfl
theorem S123_eq {k : Nat} (hk : 1000 ≤ k) {l : List I4} {ps : List Int} {i : Nat} (hl : l.length ≤ 900) (hp : ps.length = l.length) : S123 k l ps (i : Int) = some ((heldN l ps i l.length 0 0, ()), ()) := by
 unfold S123
 exact L123_3_eq hl hp l.length 0 k 0 (by omega) (by omega) (by omega) (by omega)
def badB (p q : Ar) : Bool := (!apA p q && !((decide (p.1 ≤ q.1) && decide (q.2.1 ≤ p.2.1)) || (decide (q.1 ≤ p.1) && decide (p.2.1 ≤ q.2.1)))) || (hasA p q.2.2.1 && decide (q.2.1 > p.2.1))
def cntB (i : Int) : List Ar → Int × Int → Int × Int
 | [], s => s
 | p :: r, s => cntB i r (bif hasA p i then (bif p.2.2.2 then (s.1 + 1, s.2 + 1) else (s.1, s.2 + 1)) else s)
def mkBadB (l : List I4) (ps : List Int) (i : Nat) : Bool :=
 decide ((cntB i (pcs 0 l) (0, 0)).1 > 2) || ((l.getD i i0).1 == 11 && (decide ((cntB i (pcs 0 l) (0, 0)).2 > 0) || decide (heldN l ps i l.length 0 0 > 0)))
def arBad (l : List I4) (a : List Ar) (i : Nat) : Bool := decide ((a.getD i a0).2.1 ≥ (l.length : Int) - 1) || anyF (fun k => !(i == k) && badB (a.getD i a0) (a.getD k a0)) a.length 0
def mayB (l : List I4) : Bool :=
 decide (1 ≤ l.length) && (decide (l.length ≤ 24) && (!anyF (fun i => !(mayI (l.getD i i0) && ((l.getD i i0).1 == 0) == ((i : Int) == (l.length : Int) - 1))) l.length 0 &&
  (!anyF (arBad l (pcs 0 l)) (pcs 0 l).length 0 && (match prs l with | none => false | some ps => !anyF (mkBadB l ps) l.length 0))))
theorem L74_15_eq {k : Nat} {g10 : List I4 → List Ar → Int → Option ((Bool × Unit) × Unit)} {l : List I4} {a : List Ar} {i : Nat} (hi : i < a.length) (ha : a.length ≤ 900) (j : Nat) (hj : a.length < j) :
  L74_15 k g10 j l a (i : Int) 0 = bif anyF (fun k => !(i == k) && badB (a.getD i a0) (a.getD k a0)) a.length 0 then some ((false, ()), ()) else g10 l a ((i + 1 : Nat) : Int) := by
 refine anyN (L := fun j k' => L74_15 k g10 j l a (i : Int) k') (n := a.length) _ _ _ (fun j n hn => ?_) (fun j => ?_) a.length 0 j (by omega) hj
 ·show L74_15 k g10 (j + 1) l a (i : Int) (n : Int) = _
  rw [L74_15_s, l74_15, bif_t (by omega), w64_nat (by omega)]
  by_cases e : i = n
  ·subst e; simp
  ·have e1 : ((i : Int) == (n : Int)) = false := by simp; omega
   have e2 : (i == n) = false := by simpa using e
   rw [e1, e2, cond_false, ix_nat hi, ix_nat hn, ix_nat hn, ix_nat hi, show a.getD i a0 = rd a (i : Int) (0, 0, 0, false) from rfl, show a.getD n a0 = rd a (n : Int) (0, 0, 0, false) from rfl]
   unfold j74_19 j74_20 badB apA
   simp only [ix_nat hi, ix_nat hn, S122_eq, Option.bind_some, w64_nat (show n < 9223372036854775807 by omega)]
   generalize rd a (i : Int) (0, 0, 0, false) = p
   generalize rd a (n : Int) (0, 0, 0, false) = q
   generalize decide (p.2.1 < q.1) = b1
   generalize decide (q.2.1 < p.1) = b2
   generalize decide (p.1 ≤ q.1) = b3
   generalize decide (q.2.1 ≤ p.2.1) = b4
   generalize decide (q.1 ≤ p.1) = b5
   generalize decide (p.2.1 ≤ q.2.1) = b6
   generalize decide (q.2.1 > p.2.1) = b7
   generalize hasA p q.2.2.1 = b8
   cases b1 <;> cases b2 <;> cases b3 <;> cases b4 <;> cases b5 <;> cases b6 <;> cases b7 <;> cases b8 <;> rfl
 ·show L74_15 k g10 (j + 1) l a (i : Int) (a.length : Int) = _
  rw [L74_15_s, l74_15, bif_f (by omega), w64_nat (by omega)]
theorem L74_30_eq {k : Nat} (hk : 1000 ≤ k) {g26 : List I4 → List Ar → List Int → Int → Option ((Bool × Unit) × Unit)} {l : List I4} {a : List Ar} {ps : List Int} {i : Nat} (hi : i < l.length) (ha : a.length ≤ 900) (hl : l.length ≤ 900) (hp : ps.length = l.length) : ∀ (m n j : Nat) (s : Int × Int), n + m = a.length → m < j → 0 ≤ s.1 → s.1 ≤ n → 0 ≤ s.2 → s.2 ≤ n →
  L74_30 k g26 j l a ps (i : Int) s.1 s.2 n = bif decide ((cntB i (a.drop n) s).1 > 2) || ((l.getD i i0).1 == 11 && (decide ((cntB i (a.drop n) s).2 > 0) || decide (heldN l ps i l.length 0 0 > 0))) then some ((false, ()), ()) else g26 l a ps ((i + 1 : Nat) : Int)
 | 0, n, j, s, h, hj, h0, h1, h2, h3 => by
  obtain ⟨j', rfl⟩ : ∃ j', j = j' + 1 := ⟨j - 1, by omega⟩
  rw [L74_30_s, l74_30, bif_f (by omega), drop_nil (by omega), ix_nat hi, rd_nat, S123_eq hk hl hp, w64_nat (by omega)]
  rw [Option.bind_some, show cntB i [] s = s from rfl]
  cases decide (s.1 > 2) <;> cases (l.getD i i0).1 == 11 <;> cases decide (s.2 > 0) <;> cases decide (heldN l ps i l.length 0 0 > 0) <;> rfl
 | m + 1, n, j, s, h, hj, h0, h1, h2, h3 => by
  obtain ⟨j', rfl⟩ : ∃ j', j = j' + 1 := ⟨j - 1, by omega⟩
  rw [L74_30_s, l74_30, bif_t (by omega), ix_nat (by omega), rd_nat, S122_eq, Option.bind_some, drop_cons a0 (by omega), cntB, w64_nat (by omega), w64 (by omega) (by omega), w64 (by omega) (by omega)]
  have ih := L74_30_eq hk (g26 := g26) hi ha hl hp m (n + 1) j'
  cases hasA (a.getD n a0) (i : Int) with
  | false => exact ih s (by omega) (by omega) (by omega) (by omega) (by omega) (by omega)
  | true =>
   simp only [cond_true]
   rw [ix_nat (by omega)]
   cases (a.getD n a0).2.2.2 with
   | false => exact ih (s.1, s.2 + 1) (by omega) (by omega) (by simp only; omega) (by simp only; omega) (by simp only; omega) (by simp only; omega)
   | true => exact ih (s.1 + 1, s.2 + 1) (by omega) (by omega) (by simp only; omega) (by simp only; omega) (by simp only; omega) (by simp only; omega)
theorem L74_26_eq {k : Nat} (hk : 1000 ≤ k) {l : List I4} {ps : List Int} (hl : l.length ≤ 900) (hp : ps.length = l.length) :
  L74_26 k k l (pcs 0 l) ps 0 = bif anyF (mkBadB l ps) l.length 0 then some ((false, ()), ()) else some ((true, ()), ()) := by
 have hpl := pcs_len l 0
 refine anyN (L := fun j i => L74_26 k j l (pcs 0 l) ps i) (n := l.length) _ _ _ (fun j i hi => ?_) (fun j => ?_) l.length 0 k (by omega) (by omega)
 ·show L74_26 k (j + 1) l (pcs 0 l) ps (i : Int) = _
  rw [L74_26_s, l74_26, bif_t (by omega)]
  refine (L74_30_eq hk hi (by omega) hl hp (pcs 0 l).length 0 k (0, 0) (by omega) (by omega) (by simp) (by simp) (by simp) (by simp)).trans ?_
  rw [List.drop_zero]; rfl
 ·show L74_26 k (j + 1) l (pcs 0 l) ps (l.length : Int) = _
  rw [L74_26_s, l74_26, bif_f (by omega)]
theorem L74_10_eq {k : Nat} (hk : 1000 ≤ k) {l : List I4} (hl : l.length ≤ 900) :
  L74_10 k k l (pcs 0 l) 0 = some ((!anyF (arBad l (pcs 0 l)) (pcs 0 l).length 0 && (match prs l with | none => false | some ps => !anyF (mkBadB l ps) l.length 0), ()), ()) := by
 have hpl := pcs_len l 0
 have := anyN (L := fun j i => L74_10 k j l (pcs 0 l) i) (n := (pcs 0 l).length) (arBad l (pcs 0 l)) (some ((false, ()), ())) (some ((match prs l with | none => false | some ps => !anyF (mkBadB l ps) l.length 0, ()), ())) (fun j i hi => by
  show L74_10 k (j + 1) l (pcs 0 l) (i : Int) = _
  rw [L74_10_s, l74_10, bif_t (by omega), ix_nat hi, rd_nat, w64 (by omega) (by omega)]
  unfold arBad
  cases decide (((pcs 0 l).getD i a0).2.1 ≥ (l.length : Int) - 1) with
  | true => rfl
  | false =>
   rw [cond_false, Bool.false_or]
   exact L74_15_eq hi (by omega) k (by omega)) (fun j => by
  show L74_10 k (j + 1) l (pcs 0 l) ((pcs 0 l).length : Int) = _
  rw [L74_10_s, l74_10, bif_f (by omega), S76_eq hk hl]
  cases h6 : prs l with
  | none => rfl
  | some ps =>
   simp only [prOut, Option.bind_some, Bool.not_true, cond_false]
   rw [L74_26_eq hk hl (prs_len h6)]
   cases anyF (mkBadB l ps) l.length 0 <;> rfl) (pcs 0 l).length 0 k (by omega) (by omega)
 refine Eq.trans this ?_
 cases anyF (arBad l (pcs 0 l)) (pcs 0 l).length 0 <;> rfl
theorem S74_eq {k : Nat} (hk : 1000 ≤ k) {l : List I4} (hl : l.length ≤ 900) : S74 k l = some ((mayB l, ()), ()) := by
 unfold S74 mayB
 by_cases h1 : 1 ≤ l.length
 ·rw [bif_f (by omega), decide_eq_true h1]
  by_cases h2 : l.length ≤ 24
  ·rw [bif_f (by omega), decide_eq_true h2]
   have := anyN (L := fun j i => L74_4 k j l i) (n := l.length) (fun i => !(mayI (l.getD i i0) && ((l.getD i i0).1 == 0) == ((i : Int) == (l.length : Int) - 1))) (some ((false, ()), ())) (some ((!anyF (arBad l (pcs 0 l)) (pcs 0 l).length 0 && (match prs l with | none => false | some ps => !anyF (mkBadB l ps) l.length 0), ()), ())) (fun j i hi => by
    show L74_4 k (j + 1) l (i : Int) = _
    rw [L74_4_s, l74_4, bif_t (by omega), ix_nat hi, rd_nat, S120_eq, Option.bind_some, ix_nat hi, w64 (by omega) (by omega), w64_nat (by omega)]
    cases mayI (l.getD i i0) <;> cases ((l.getD i i0).1 == 0) == ((i : Int) == (l.length : Int) - 1) <;> rfl) (fun j => by
    show L74_4 k (j + 1) l (l.length : Int) = _
    rw [L74_4_s, l74_4, bif_f (by omega), S121_eq hk hl, Option.bind_some]
    exact L74_10_eq hk hl) l.length 0 k (by omega) (by omega)
   refine Eq.trans this ?_
   cases anyF (fun i => !(mayI (l.getD i i0) && ((l.getD i i0).1 == 0) == ((i : Int) == (l.length : Int) - 1))) l.length 0 <;> rfl
  ·rw [bif_t (by omega), decide_eq_false h2]; rfl
 ·rw [bif_t (by omega), decide_eq_false h1]; rfl
end Go.Proofs.YteflacbgobpmcaaGreat.Ab

/- Which programs may be: both answers are one. -/
namespace Go.Proofs.YteflacbgobpmcaaGreat.Ab
open Go.RowKit
set_option linter.unusedSimpArgs false
set_option linter.unusedVariables false
def wd (x : I4) : Nat := (bif x.1 == 8 then x.2.2.1 else bif x.1 == 7 then x.2.2.2 else 0).toNat
def isA (x : I4) : Bool := x.1 == 8 || x.1 == 7
theorem wit_iff (v a b : Int) : witI v a b = true ↔ a ≤ v ∧ v ≤ b := by simp [witI]
theorem may8 {x : I4} (h : mayI x = true) (e : x.1 = 8) : x.2.1 = 0 ∧ (1 ≤ x.2.2.1 ∧ x.2.2.1 ≤ 24) ∧ 1 ≤ x.2.2.2 ∧ x.2.2.2 ≤ 20 := by
 simpa [mayI, e, wit_iff] using h
theorem may7 {x : I4} (h : mayI x = true) (e : x.1 = 7) : (0 ≤ x.2.1 ∧ x.2.1 < 8) ∧ x.2.2.1 = 0 ∧ 1 ≤ x.2.2.2 ∧ x.2.2.2 ≤ 24 := by
 simpa [mayI, e, wit_iff, memI] using h
theorem wd_zero {x : I4} (h : isA x = false) : wd x = 0 := by
 simp only [isA, Bool.or_eq_false_iff] at h
 simp [wd, h.1, h.2]
theorem mayA_wd {x : I4} (h : mayI x = true) (ha : isA x = true) : 1 ≤ wd x ∧ wd x ≤ 24 ∧ (x.1 = 8 → x.2.2.1 = (wd x : Int)) ∧ (x.1 = 7 → x.2.2.2 = (wd x : Int)) := by
 simp only [isA, Bool.or_eq_true, beq_iff_eq] at ha
 rcases ha with e | e
 ·have := may8 h e
  have w : wd x = x.2.2.1.toNat := by simp [wd, e]
  rw [w]; refine ⟨by omega, by omega, fun _ => by omega, fun e2 => by omega⟩
 ·have := may7 h e
  have w : wd x = x.2.2.2.toNat := by simp [wd, e]
  rw [w]; refine ⟨by omega, by omega, fun e2 => by omega, fun _ => by omega⟩
def arOf (i : Nat) (x : I4) : Ar := (((i + 1 : Nat) : Int), ((i + wd x : Nat) : Int), (i : Int), x.1 == 8)
theorem pc_may {x : I4} (h : mayI x = true) {i : Nat} (hi : i ≤ 9000) : pc i x = if isA x = true then [arOf i x] else [] := by
 unfold pc
 cases h8 : x.1 == 8 with
 | true =>
  have e := eq_of_beq h8
  have ha : isA x = true := by simp [isA, e]
  have := mayA_wd h ha
  rw [if_pos ha, cond_true, this.2.2.1 e, w64 (by omega) (by omega), arOf, h8]
  congr 3
 | false =>
  cases h7 : x.1 == 7 with
  | true =>
   have e := eq_of_beq h7
   have ha : isA x = true := by simp [isA, e]
   have := mayA_wd h ha
   rw [if_pos ha, cond_true, cond_false, this.2.2.2 e, w64 (by omega) (by omega), arOf, h8]
   congr 3
  | false =>
   rw [if_neg (by simp [isA, h8, h7])]; rfl
theorem pcs_mem_iff : ∀ (l : List I4) (i : Nat) (p : Ar), (∀ x ∈ l, mayI x = true) → i + l.length ≤ 9000 → (p ∈ pcs i l ↔ ∃ n, n < l.length ∧ isA (l.getD n i0) = true ∧ p = arOf (i + n) (l.getD n i0))
 | [], i, p, _, _ => by simp [pcs]
 | x :: r, i, p, hm, hl => by
  simp only [List.length_cons] at hl
  rw [pcs, List.mem_append, pc_may (hm x List.mem_cons_self) (by omega), pcs_mem_iff r (i + 1) p (fun y hy => hm y (List.mem_cons_of_mem _ hy)) (by omega)]
  constructor
  ·rintro (h | ⟨n, h1, h2, h3⟩)
   ·split at h
    ·rename_i ha
     have := List.mem_singleton.1 h
     exact ⟨0, by simp, by simpa using ha, by simpa using this⟩
    ·cases h
   ·exact ⟨n + 1, by simp only [List.length_cons]; omega, by simpa using h2, by rw [List.getD_cons_succ, h3]; congr 1; omega⟩
  ·rintro ⟨n, h1, h2, h3⟩
   cases n with
   | zero =>
    rw [List.getD_cons_zero] at h2 h3
    left; rw [if_pos h2]; exact List.mem_singleton.2 h3
   | succ n =>
    rw [List.getD_cons_succ] at h2 h3
    right; exact ⟨n, by simp only [List.length_cons] at h1; omega, h2, by rw [h3]; congr 1; omega⟩
/-! ### how many bodies are around an instruction -/
def cB (j : Int) (ps : List Ar) : Nat := ps.countP (fun p => p.2.2.2 && hasA p j)
theorem cntB_eq (j : Int) : ∀ (ps : List Ar) (s : Int × Int), cntB j ps s = (s.1 + (cB j ps : Int), s.2 + ((ps.countP (fun p => hasA p j) : Nat) : Int))
 | [], s => by simp [cntB, cB]
 | p :: r, s => by
  rw [cntB, cntB_eq j r, cB, cB, List.countP_cons, List.countP_cons]
  cases h1 : hasA p j <;> cases h2 : p.2.2.2 <;> simp [h1, h2] <;> (try constructor) <;> omega
theorem bumps_get : ∀ (m i : Nat) (ar : List Int) (j : Nat), i + m ≤ ar.length → (bumps ar i m).getD j 0 = if i ≤ j ∧ j < i + m then IntKind.i64.wrap (ar.getD j 0 + 1) else ar.getD j 0
 | 0, i, ar, j, _ => by rw [bumps, if_neg (by omega)]
 | m + 1, i, ar, j, h => by
  rw [bumps, bumps_get m (i + 1) _ j (by simp only [List.length_set]; omega), set_get]
  by_cases e : i = j
  ·subst e
   rw [if_neg (by omega), if_pos ⟨rfl, by omega⟩, if_pos (by omega)]
  ·rw [if_neg (fun h : i = j ∧ j < ar.length => e h.1)]
   by_cases e2 : i + 1 ≤ j ∧ j < i + 1 + m
   ·rw [if_pos e2, if_pos (by omega)]
   ·rw [if_neg e2, if_neg (by omega)]
theorem nest_iff {len : Nat} {all : List Ar} (hlen : len ≤ 900) : ∀ (ps : List Ar) (ar : List Int), ar.length = len → (∀ p ∈ ps, p.1 = p.2.2.1 + 1 ∧ 0 ≤ p.2.2.1 ∧ p.1 ≤ p.2.1) → (∀ j, j < len → 0 ≤ ar.getD j 0 ∧ ar.getD j 0 + ps.length ≤ 900) →
  (nest ((len : Int) - 1) all ps ar = true ↔ (∀ p ∈ ps, p.2.1 < (len : Int) - 1 ∧ all.any (badA p) = false) ∧ ∀ j, j < len → ar.getD j 0 + (cB j ps : Int) ≤ 2)
 | [], ar, ha, _, _ => by
  rw [nest, Bool.not_eq_true', List.any_eq_false]
  constructor
  ·intro h
   refine ⟨fun p hp => (by cases hp), fun j hj => ?_⟩
   have := h _ (getD_mem (z := 0) (l := ar) (i := j) (by omega))
   simp only [cB, List.countP_nil]
   have := of_decide_eq_false (Bool.not_eq_true _ ▸ this)
   omega
  ·rintro ⟨_, h⟩ x hx
   obtain ⟨j, hj, rfl⟩ := mem_getD 0 hx
   have := h j (by omega)
   simp only [cB, List.countP_nil] at this
   rw [Bool.not_eq_true]
   exact decide_eq_false (by omega)
 | p :: r, ar, ha, hp, hb => by
  rw [nest]
  have hp1 := hp p List.mem_cons_self
  by_cases h1 : p.2.1 ≥ (len : Int) - 1
  ·rw [bif_t h1]
   exact ⟨fun h => (by cases h), fun h => absurd (h.1 p List.mem_cons_self).1 (by omega)⟩
  ·rw [bif_f h1]
   cases h2 : all.any (badA p) with
   | true => exact ⟨fun h => (by cases h), fun h => (by rw [(h.1 p List.mem_cons_self).2] at h2; cases h2)⟩
   | false =>
    rw [cond_false]
    have hget : ∀ j, j < len → (bif p.2.2.2 then bumps ar p.1.toNat (p.2.1 + 1 - p.1).toNat else ar).getD j 0 = ar.getD j 0 + (if (p.2.2.2 && hasA p j) = true then 1 else 0) := by
     intro j hj
     cases h3 : p.2.2.2 with
     | false => simp
     | true =>
      rw [cond_true, bumps_get _ _ _ _ (by omega)]
      have := hb j hj
      simp only [List.length_cons] at this
      by_cases h4 : hasA p j = true
      ·have h5 : p.1 ≤ (j : Int) ∧ (j : Int) ≤ p.2.1 := by simpa [hasA] using h4
       rw [if_pos (by omega), if_pos (by simp [h4]), w64 (by omega) (by omega)]
      ·have h5 : ¬ (p.1 ≤ (j : Int) ∧ (j : Int) ≤ p.2.1) := by simpa [hasA] using h4
       rw [if_neg (by omega), if_neg (by simp [h4])]; omega
    have hlen2 : (bif p.2.2.2 then bumps ar p.1.toNat (p.2.1 + 1 - p.1).toNat else ar).length = len := by
     cases p.2.2.2
     ·exact ha
     ·rw [cond_true, bumps_len]; exact ha
    rw [nest_iff hlen r _ hlen2 (fun q hq => hp q (List.mem_cons_of_mem _ hq)) (fun j hj => by
     rw [hget j hj]
     have := hb j hj
     simp only [List.length_cons] at this
     split <;> omega)]
    constructor
    ·rintro ⟨h3, h4⟩
     refine ⟨fun q hq => ?_, fun j hj => ?_⟩
     ·rcases List.mem_cons.1 hq with rfl | hq
      ·exact ⟨by omega, h2⟩
      ·exact h3 q hq
     ·have := h4 j hj
      rw [hget j hj] at this
      rw [cB, List.countP_cons]
      rw [cB] at this
      cases h5 : (p.2.2.2 && hasA p j) <;> simp only [h5, if_true, Bool.false_eq_true, if_false] at this ⊢ <;> omega
    ·rintro ⟨h3, h4⟩
     refine ⟨fun q hq => h3 q (List.mem_cons_of_mem _ hq), fun j hj => ?_⟩
     have := h4 j hj
     rw [hget j hj]
     rw [cB, List.countP_cons] at this
     rw [cB]
     cases h5 : (p.2.2.2 && hasA p j) <;> simp only [h5, if_true, Bool.false_eq_true, if_false] at this ⊢ <;> omega
structure GoodA (l : List I4) (ps : List Int) : Prop where
 len1 : 1 ≤ l.length
 len2 : l.length ≤ 24
 may : ∀ x ∈ l, mayI x = true
 end_ : ∀ i, i < l.length → ((l.getD i i0).1 = 0 ↔ i + 1 = l.length)
 last : ∀ p ∈ pcs 0 l, p.2.1 < (l.length : Int) - 1
 bad : ∀ p ∈ pcs 0 l, ∀ q ∈ pcs 0 l, badA p q = false
 bodies : ∀ j, j < l.length → cB (j : Int) (pcs 0 l) ≤ 2
 pairs : prs l = some ps
 marks : ∀ i, i < l.length → (l.getD i i0).1 = 11 → (pcs 0 l).any (fun p => hasA p i) = false ∧ ∀ k, k < i → ps.getD k 0 ≤ (i : Int)
theorem pcs_shape {l : List I4} (hm : ∀ x ∈ l, mayI x = true) (hl : l.length ≤ 900) {p : Ar} (hp : p ∈ pcs 0 l) : p.1 = p.2.2.1 + 1 ∧ 0 ≤ p.2.2.1 ∧ p.1 ≤ p.2.1 ∧ p.2.2.1 < (l.length : Int) := by
 obtain ⟨n, h1, h2, rfl⟩ := (pcs_mem_iff l 0 p hm (by omega)).1 hp
 have := mayA_wd (hm _ (getD_mem h1)) h2
 simp only [arOf]
 omega
theorem all_may {l : List I4} : l.any (fun i => !mayI i) = false ↔ ∀ x ∈ l, mayI x = true := by
 rw [List.any_eq_false]
 exact ⟨fun h x hx => by simpa using h x hx, fun h x hx => by simp [h x hx]⟩
theorem idx_end {l : List I4} (h1 : 1 ≤ l.length) : (idxI (fun i => i.1 == 0) l == (l.length : Int) - 1) = true ↔ ∀ i, i < l.length → ((l.getD i i0).1 = 0 ↔ i + 1 = l.length) := by
 rw [beq_iff_eq]
 unfold idxI
 cases h : l.findIdx? (fun i => i.1 == 0) with
 | none =>
  rw [List.findIdx?_eq_none_iff] at h
  constructor
  ·intro e; simp only at e; omega
  ·intro e
   have e1 := (e (l.length - 1) (by omega)).2 (by omega)
   have := h _ (getD_mem (z := i0) (l := l) (i := l.length - 1) (by omega))
   rw [e1] at this
   exact absurd this (by decide)
 | some n =>
  rw [List.findIdx?_eq_some_iff_getElem] at h
  obtain ⟨hn, hn1, hn2⟩ := h
  simp only
  constructor
  ·intro e i hi
   have : n + 1 = l.length := by omega
   constructor
   ·intro e2
    by_cases hlt : i < n
    ·have := hn2 i hlt
     rw [getD_in hi] at e2
     simp [e2] at this
    ·omega
   ·intro e2
    have : i = n := by omega
    subst this
    rw [getD_in hi]; simpa using hn1
  ·intro e
   have := (e n hn).1 (by rw [getD_in hn]; simpa using hn1)
   omega
theorem mkBad_none {l : List I4} {ps : List Int} (hp : ps.length = l.length) : anyF (mkBad l ps) l.length 0 = false ↔ ∀ i, i < l.length → (l.getD i i0).1 = 11 → (pcs 0 l).any (fun p => hasA p i) = false ∧ ∀ k, k < i → ps.getD k 0 ≤ (i : Int) := by
 rw [anyF_none]
 constructor
 ·intro h i hi e
  have := h i (by omega) (by omega)
  unfold mkBad at this
  simp only [e, beq_self_eq_true, Bool.true_and, Bool.or_eq_false_iff] at this
  refine ⟨this.1, fun k hk => ?_⟩
  have h2 := this.2
  rw [List.any_eq_false] at h2
  have h3 : ps.getD k 0 ∈ ps.take i := by
   rw [getD_in (by omega), List.mem_take_iff_getElem]
   exact ⟨k, by omega, rfl⟩
  have := h2 _ h3
  simp only [decide_eq_true_eq] at this
  omega
 ·intro h i _ hi
  unfold mkBad
  cases h11 : (l.getD i i0).1 == 11 with
  | false => rfl
  | true =>
   obtain ⟨h1, h2⟩ := h i (by omega) (eq_of_beq h11)
   rw [h1, Bool.true_and, Bool.false_or, List.any_eq_false]
   intro x hx
   rw [List.mem_take_iff_getElem] at hx
   obtain ⟨k, hk, rfl⟩ := hx
   have := h2 k (by omega)
   rw [getD_in (by omega)] at this
   simp only [decide_eq_true_eq]
   omega
theorem mayA_iff {l : List I4} : mayA l = true ↔ ∃ ps, GoodA l ps := by
 unfold mayA
 simp only [Bool.and_eq_true, decide_eq_true_eq, Bool.not_eq_true']
 constructor
 ·rintro ⟨h1, h2, h3, h4, h5, h6⟩
  have h3 := all_may.1 h3
  have hpl := pcs_len l 0
  cases hps : prs l with
  | none => rw [hps] at h6; cases h6
  | some ps =>
   rw [hps] at h6
   simp only [Bool.not_eq_true'] at h6
   have h5 := (nest_iff (all := pcs 0 l) (by omega) (pcs 0 l) (List.replicate l.length 0) (by simp) (fun p hp => by have := pcs_shape h3 (by omega) hp; omega) (fun j hj => by
    rw [List.getD_eq_getElem?_getD, List.getElem?_replicate, if_pos hj]; simp; omega)).1 h5
   exact ⟨ps, ⟨h1, h2, h3, (idx_end h1).1 h4, fun p hp => (h5.1 p hp).1, fun p hp q hq => by
    have := (h5.1 p hp).2
    rw [List.any_eq_false] at this
    simpa using this q hq, fun j hj => by
    have := h5.2 j hj
    rw [List.getD_eq_getElem?_getD, List.getElem?_replicate, if_pos hj] at this
    simp at this; omega, hps, (mkBad_none (prs_len hps)).1 h6⟩⟩
 ·rintro ⟨ps, g⟩
  have hpl := pcs_len l 0
  have := g.len2
  refine ⟨g.len1, g.len2, all_may.2 g.may, (idx_end g.len1).2 g.end_, ?_, ?_⟩
  ·refine (nest_iff (all := pcs 0 l) (by omega) (pcs 0 l) (List.replicate l.length 0) (by simp) (fun p hp => by have := pcs_shape g.may (by omega) hp; omega) (fun j hj => by
    rw [List.getD_eq_getElem?_getD, List.getElem?_replicate, if_pos hj]; simp; omega)).2 ⟨fun p hp => ⟨g.last p hp, ?_⟩, fun j hj => ?_⟩
   ·rw [List.any_eq_false]; intro q hq; simp [g.bad p hp q hq]
   ·rw [List.getD_eq_getElem?_getD, List.getElem?_replicate, if_pos hj]
    have := g.bodies j hj
    simp; omega
  ·rw [g.pairs]
   simp only [Bool.not_eq_true']
   exact (mkBad_none (prs_len g.pairs)).2 g.marks
theorem bad_self {p : Ar} (h : p.1 = p.2.2.1 + 1 ∧ p.1 ≤ p.2.1) : badA p p = false := by
 unfold badA inA apA hasA
 have e1 : decide (p.1 ≤ p.2.2.1) = false := decide_eq_false (by omega)
 have e2 : decide (p.1 ≤ p.1) = true := decide_eq_true (by omega)
 have e3 : decide (p.1 ≤ p.2.1) = true := decide_eq_true (by omega)
 have e4 : decide (p.2.1 ≤ p.2.1) = true := decide_eq_true (by omega)
 rw [e1, e2, e3, e4]; simp
theorem bad_swap {p q : Ar} (hp : p.1 = p.2.2.1 + 1 ∧ p.1 ≤ p.2.1) (hq : q.1 = q.2.2.1 + 1 ∧ q.1 ≤ q.2.1) : badB p q = badA q p := by
 unfold badB badA inA apA hasA
 rw [Bool.eq_iff_iff]
 simp only [Bool.or_eq_true, Bool.and_eq_true, Bool.not_eq_true', decide_eq_true_eq, Bool.or_eq_false_iff, Bool.and_eq_false_iff, decide_eq_false_iff_not]
 omega
theorem prGo_zero {l : List I4} : ∀ (m i : Nat) (s s' : List Int × List Int), prGo l m i s = some s' → (∀ k ∈ s.2, ∃ n : Nat, k = (n : Int) ∧ (l.getD n i0).1 = 9) → ∀ k, (l.getD k i0).1 ≠ 9 → s'.1.getD k 0 = s.1.getD k 0
 | 0, i, s, s', h, _, k, _ => by injection h with h; subst h; rfl
 | m + 1, i, s, s', h, ho, k, hk => by
  rw [prGo, Option.bind_eq_some_iff] at h
  obtain ⟨t, h1, h2⟩ := h
  unfold prStep at h1
  split at h1
  ·rename_i h9
   split at h1
   ·cases h1
   ·injection h1 with h1; subst h1
    exact prGo_zero m (i + 1) _ s' h2 (fun x hx => by
     rcases List.mem_append.1 hx with hx | hx
     ·exact ho x hx
     ·exact ⟨i, List.mem_singleton.1 hx, h9⟩) k hk
  ·split at h1
   ·split at h1
    ·cases h1
    ·rename_i x hx
     split at h1
     ·cases h1
     ·injection h1 with h1; subst h1
      rw [prGo_zero m (i + 1) _ s' h2 (fun y hy => ho y ((List.dropLast_sublist _).subset hy)) k hk]
      obtain ⟨n, rfl, hn⟩ := ho x (List.mem_of_getLast? hx)
      show (upd s.1 (n : Int) (i : Int)).getD k 0 = _
      rw [upd_nat, set_get, if_neg]
      rintro ⟨rfl, _⟩
      exact hk hn
   ·injection h1 with h1; subst h1
    exact prGo_zero m (i + 1) _ s' h2 ho k hk
theorem pair_zero {l : List I4} {ps : List Int} (h : prs l = some ps) {k : Nat} (hk : k < l.length) (h9 : (l.getD k i0).1 ≠ 9) : ps.getD k 0 = 0 := by
 have := prGo_zero _ _ _ _ (prs_go h) (fun k hk => by cases hk) k h9
 rw [this, List.getD_eq_getElem?_getD, List.getElem?_replicate, if_pos hk]; rfl
theorem mayB_iff {l : List I4} : mayB l = true ↔ ∃ ps, GoodA l ps := by
 unfold mayB
 simp only [Bool.and_eq_true, decide_eq_true_eq, Bool.not_eq_true']
 constructor
 ·rintro ⟨h1, h2, h3, h4, h5⟩
  rw [anyF_none] at h3 h4
  have h3' : ∀ i, i < l.length → mayI (l.getD i i0) = true ∧ ((l.getD i i0).1 = 0 ↔ i + 1 = l.length) := fun i hi => by
   have := h3 i (by omega) (by omega)
   rw [Bool.not_eq_false', Bool.and_eq_true] at this
   have h6 := eq_of_beq this.2
   rw [Bool.eq_iff_iff, beq_iff_eq, beq_iff_eq] at h6
   exact ⟨this.1, h6.trans ⟨fun h => by omega, fun h => by omega⟩⟩
  have hm : ∀ x ∈ l, mayI x = true := fun x hx => by obtain ⟨i, hi, rfl⟩ := mem_getD i0 hx; exact (h3' i hi).1
  cases hps : prs l with
  | none => rw [hps] at h5; cases h5
  | some ps =>
   rw [hps] at h5
   simp only [Bool.not_eq_true', anyF_none] at h5
   have hpl := prs_len hps
   have h5' : ∀ i, i < l.length → cB (i : Int) (pcs 0 l) ≤ 2 ∧ ((l.getD i i0).1 = 11 → (pcs 0 l).countP (fun p => hasA p i) = 0 ∧ decide (heldN l ps i l.length 0 0 > 0) = false) := fun i hi => by
    have := h5 i (by omega) (by omega)
    unfold mkBadB at this
    rw [cntB_eq] at this
    simp only [Bool.or_eq_false_iff, decide_eq_false_iff_not, Bool.and_eq_false_iff, beq_eq_false_iff_ne] at this
    refine ⟨by omega, fun e => ?_⟩
    rcases this.2 with h | ⟨h6, h7⟩
    ·exact absurd e h
    ·exact ⟨by omega, decide_eq_false h7⟩
   refine ⟨ps, ⟨h1, h2, hm, fun i hi => (h3' i hi).2, fun p hp => ?_, fun p hp q hq => ?_, fun j hj => (h5' j hj).1, hps, fun i hi e => ⟨?_, fun k hk => ?_⟩⟩⟩
   ·obtain ⟨i, hi, rfl⟩ := mem_getD a0 hp
    have := h4 i (by omega) (by omega)
    simp only [arBad, Bool.or_eq_false_iff, decide_eq_false_iff_not] at this
    omega
   ·obtain ⟨i, hi, rfl⟩ := mem_getD a0 hp
    obtain ⟨k, hk, rfl⟩ := mem_getD a0 hq
    have s1 := pcs_shape hm (by omega) hp
    have s2 := pcs_shape hm (by omega) hq
    by_cases e : k = i
    ·subst e; exact bad_self ⟨s1.1, s1.2.2.1⟩
    ·have := h4 k (by omega) (by omega)
     simp only [arBad, Bool.or_eq_false_iff, anyF_none] at this
     have := this.2 i (by omega) (by omega)
     rw [show (k == i) = false by simpa using e, Bool.not_false, Bool.true_and, bad_swap ⟨s2.1, s2.2.2.1⟩ ⟨s1.1, s1.2.2.1⟩] at this
     exact this
   ·have := ((h5' i hi).2 e).1
    rw [List.countP_eq_zero] at this
    rw [List.any_eq_false]; exact this
   ·have := ((h5' i hi).2 e).2
    rw [heldN_pos, anyF_none] at this
    have h6 := this k (by omega) (by omega)
    have hlt : decide ((k : Int) < (i : Int)) = true := decide_eq_true (by omega)
    rw [hlt, Bool.true_and] at h6
    simp only [Bool.and_eq_false_iff, decide_eq_false_iff_not] at h6
    rcases h6 with h6 | h6
    ·-- what is no lock has no pair
     have h7 : (l.getD k i0).1 ≠ 9 := fun e => by rw [e] at h6; exact absurd h6 (by decide)
     rw [pair_zero hps (by omega) h7]; omega
    ·omega
 ·rintro ⟨ps, g⟩
  have h2 := g.len2
  have hpl := prs_len g.pairs
  refine ⟨g.len1, g.len2, ?_, ?_, ?_⟩
  ·rw [anyF_none]
   intro i _ hi
   have e := g.end_ i (by omega)
   rw [g.may _ (getD_mem (by omega)), Bool.true_and, Bool.not_eq_false', beq_iff_eq, Bool.eq_iff_iff, beq_iff_eq, beq_iff_eq, e]
   omega
  ·rw [anyF_none]
   intro i _ hi
   have hp := getD_mem (z := a0) (l := pcs 0 l) (i := i) (by omega)
   have s1 := pcs_shape g.may (by omega) hp
   unfold arBad
   rw [decide_eq_false (by have := g.last _ hp; omega), Bool.false_or, anyF_none]
   intro k _ hk
   have hq := getD_mem (z := a0) (l := pcs 0 l) (i := k) (by omega)
   have s2 := pcs_shape g.may (by omega) hq
   rw [bad_swap ⟨s1.1, s1.2.2.1⟩ ⟨s2.1, s2.2.2.1⟩, g.bad _ hq _ hp, Bool.and_false]
  ·rw [g.pairs]
   simp only [Bool.not_eq_true', anyF_none]
   intro i _ hi
   unfold mkBadB
   rw [cntB_eq]
   have h3 := g.bodies i (by omega)
   rw [decide_eq_false (by simp only; omega), Bool.false_or]
   cases h11 : (l.getD i i0).1 == 11 with
   | false => rfl
   | true =>
    obtain ⟨h4, h5⟩ := g.marks i (by omega) (eq_of_beq h11)
    have h6 : (pcs 0 l).countP (fun p => hasA p i) = 0 := by
     rw [List.countP_eq_zero]; rw [List.any_eq_false] at h4; exact h4
    rw [h6, heldN_pos, Bool.true_and]
    rw [show decide ((0 : Int) + ((0 : Nat) : Int) > 0) = false from rfl, Bool.false_or, anyF_none]
    intro k _ hk
    by_cases hki : k < i
    ·have := h5 k hki
     have : decide ((i : Int) < ps.getD k 0) = false := decide_eq_false (by omega)
     rw [this, Bool.and_false, Bool.and_false]
    ·have : decide ((k : Int) < (i : Int)) = false := decide_eq_false (by omega)
     rw [this, Bool.false_and, Bool.and_false]
theorem mayB_eq (l : List I4) : mayB l = mayA l := by rw [Bool.eq_iff_iff, mayB_iff, mayA_iff]
end Go.Proofs.YteflacbgobpmcaaGreat.Ab

/- Programs as trees: what is flat may be. -/
namespace Go.Proofs.YteflacbgobpmcaaGreat.Ab
open Go.RowKit
set_option linter.unusedSimpArgs false
set_option linter.unusedVariables false
inductive Tr where
 | nil
 | one (x : I4) (r : Tr)
 | lk (a : Int) (b r : Tr)
 | ar (x : I4) (b r : Tr)
namespace Tr
def flat : Tr → List I4
 | nil => []
 | one x r => x :: flat r
 | lk a b r => (9, a, 0, 0) :: (flat b ++ ((10, a, 0, 0) :: flat r))
 | ar x b r => x :: (flat b ++ flat r)
def len : Tr → Nat
 | nil => 0
 | one _ r => len r + 1
 | lk _ b r => len b + len r + 2
 | ar _ b r => len b + len r + 1
theorem flat_len : ∀ t : Tr, t.flat.length = t.len
 | nil => rfl
 | one x r => by simp only [flat, len, List.length_cons, flat_len r]
 | lk a b r => by simp only [flat, len, List.length_cons, List.length_append, flat_len b, flat_len r]; omega
 | ar x b r => by simp only [flat, len, List.length_cons, List.length_append, flat_len b, flat_len r]
def plain (x : I4) : Prop := x.1 ≠ 0 ∧ x.1 ≠ 7 ∧ x.1 ≠ 8 ∧ x.1 ≠ 9 ∧ x.1 ≠ 10
def Ok : Nat → List Int → Bool → Tr → Prop
 | _, _, _, nil => True
 | d, hs, ia, one x r => mayI x = true ∧ plain x ∧ (x.1 = 11 → ia = false ∧ hs = []) ∧ Ok d hs ia r
 | d, hs, ia, lk a b r => (0 ≤ a ∧ a ≤ 3) ∧ (a ∉ hs ∧ hs.length < 2) ∧ Ok d (hs ++ [a]) ia b ∧ Ok d hs ia r
 | d, hs, ia, ar x b r => (mayI x = true ∧ isA x = true ∧ wd x = b.len) ∧ (x.1 = 8 → d < 2) ∧ Ok (bif x.1 == 8 then d + 1 else d) hs true b ∧ Ok d hs ia r
def app : Tr → Tr → Tr
 | nil, u => u
 | one x r, u => one x (app r u)
 | lk a b r, u => lk a b (app r u)
 | ar x b r, u => ar x b (app r u)
theorem flat_app : ∀ (t u : Tr), (app t u).flat = t.flat ++ u.flat
 | nil, u => rfl
 | one x r, u => by simp only [app, flat, flat_app r u, List.cons_append]
 | lk a b r, u => by simp only [app, flat, flat_app r u, List.cons_append, List.append_assoc]
 | ar x b r, u => by simp only [app, flat, flat_app r u, List.cons_append, List.append_assoc]
theorem len_app (t u : Tr) : (app t u).len = t.len + u.len := by rw [← flat_len, flat_app, List.length_append, flat_len, flat_len]
theorem Ok_app {d : Nat} {hs : List Int} {ia : Bool} : ∀ {t u : Tr}, Ok d hs ia t → Ok d hs ia u → Ok d hs ia (app t u)
 | nil, u, _, h => h
 | one x r, u, ⟨h1, h2, h3, h4⟩, h => ⟨h1, h2, h3, Ok_app h4 h⟩
 | lk a b r, u, ⟨h1, h2, h3, h4⟩, h => ⟨h1, h2, h3, Ok_app h4 h⟩
 | ar x b r, u, ⟨h1, h2, h3, h4⟩, h => ⟨h1, h2, h3, Ok_app h4 h⟩
end Tr
open Tr
theorem plain_A {x : I4} (h : plain x) : isA x = false := by
 obtain ⟨_, h7, h8, _⟩ := h
 simp [isA, h7, h8]
theorem may_lk {a : Int} (h : 0 ≤ a ∧ a ≤ 3) : mayI (9, a, 0, 0) = true := by simp [mayI, witI, h]
theorem may_ul {a : Int} (h : 0 ≤ a ∧ a ≤ 3) : mayI (10, a, 0, 0) = true := by simp [mayI, witI, h]
theorem Ok_may : ∀ {t : Tr} {d : Nat} {hs : List Int} {ia : Bool}, Ok d hs ia t → ∀ x ∈ t.flat, mayI x = true
 | .nil, _, _, _, _, x, hx => by cases hx
 | .one y r, _, _, _, ⟨h1, _, _, h4⟩, x, hx => by
  rcases List.mem_cons.1 hx with rfl | hx
  ·exact h1
  ·exact Ok_may h4 x hx
 | .lk a b r, _, _, _, ⟨h1, _, h3, h4⟩, x, hx => by
  rcases List.mem_cons.1 hx with rfl | hx
  ·exact may_lk h1
  ·rcases List.mem_append.1 hx with hx | hx
   ·exact Ok_may h3 x hx
   ·rcases List.mem_cons.1 hx with rfl | hx
    ·exact may_ul h1
    ·exact Ok_may h4 x hx
 | .ar y b r, _, _, _, ⟨h1, _, h3, h4⟩, x, hx => by
  rcases List.mem_cons.1 hx with rfl | hx
  ·exact h1.1
  ·rcases List.mem_append.1 hx with hx | hx
   ·exact Ok_may h3 x hx
   ·exact Ok_may h4 x hx
theorem Ok_op : ∀ {t : Tr} {d : Nat} {hs : List Int} {ia : Bool}, Ok d hs ia t → ∀ x ∈ t.flat, x.1 ≠ 0
 | .nil, _, _, _, _, x, hx => by cases hx
 | .one y r, _, _, _, ⟨_, h2, _, h4⟩, x, hx => by
  rcases List.mem_cons.1 hx with rfl | hx
  ·exact h2.1
  ·exact Ok_op h4 x hx
 | .lk a b r, _, _, _, ⟨_, _, h3, h4⟩, x, hx => by
  rcases List.mem_cons.1 hx with rfl | hx
  ·exact (by decide : (9 : Int) ≠ 0)
  ·rcases List.mem_append.1 hx with hx | hx
   ·exact Ok_op h3 x hx
   ·rcases List.mem_cons.1 hx with rfl | hx
    ·exact (by decide : (10 : Int) ≠ 0)
    ·exact Ok_op h4 x hx
 | .ar y b r, _, _, _, ⟨h1, _, h3, h4⟩, x, hx => by
  rcases List.mem_cons.1 hx with rfl | hx
  ·intro e; have := h1.2.1; simp [isA, e] at this
  ·rcases List.mem_append.1 hx with hx | hx
   ·exact Ok_op h3 x hx
   ·exact Ok_op h4 x hx
/-! ### areas of a tree -/
theorem pcs_app : ∀ (u w : List I4) (o : Nat), pcs o (u ++ w) = pcs o u ++ pcs (o + u.length) w
 | [], w, o => by simp [pcs]
 | x :: u, w, o => by
  simp only [List.cons_append, pcs, List.append_assoc, List.length_cons]
  rw [pcs_app u w (o + 1), show o + 1 + u.length = o + (u.length + 1) by omega]
theorem pcs_plain {x : I4} (h1 : mayI x = true) (h2 : isA x = false) {o : Nat} (r : List I4) (ho : o ≤ 9000) : pcs o (x :: r) = pcs (o + 1) r := by
 rw [pcs, pc_may h1 ho, if_neg (by simp [h2])]; rfl
theorem pcs_area {x : I4} (h1 : mayI x = true) (h2 : isA x = true) {o : Nat} (r : List I4) (ho : o ≤ 9000) : pcs o (x :: r) = arOf o x :: pcs (o + 1) r := by
 rw [pcs, pc_may h1 ho, if_pos h2]; rfl
theorem pcs_one {x : I4} {r : Tr} (h1 : mayI x = true) (h2 : plain x) {o : Nat} (ho : o ≤ 9000) : pcs o (Tr.one x r).flat = pcs (o + 1) r.flat := pcs_plain h1 (plain_A h2) _ ho
theorem pcs_lk {a : Int} {b r : Tr} (h1 : 0 ≤ a ∧ a ≤ 3) {o : Nat} (ho : o + b.len + 1 ≤ 9000) : pcs o (Tr.lk a b r).flat = pcs (o + 1) b.flat ++ pcs (o + b.len + 2) r.flat := by
 rw [Tr.flat, pcs_plain (may_lk h1) rfl _ (by omega), pcs_app, flat_len, pcs_plain (may_ul h1) rfl _ (by omega), show o + 1 + b.len + 1 = o + b.len + 2 by omega]
theorem pcs_ar {x : I4} {b r : Tr} (h1 : mayI x = true) (h2 : isA x = true) {o : Nat} (ho : o ≤ 9000) : pcs o (Tr.ar x b r).flat = arOf o x :: (pcs (o + 1) b.flat ++ pcs (o + b.len + 1) r.flat) := by
 rw [Tr.flat, pcs_area h1 h2 _ ho, pcs_app, flat_len, show o + 1 + b.len = o + b.len + 1 by omega]
theorem ar_in : ∀ {t : Tr} {d : Nat} {hs : List Int} {ia : Bool} {o : Nat}, Ok d hs ia t → o + t.len ≤ 9000 → ∀ p ∈ pcs o t.flat, (o : Int) < p.1 ∧ p.1 = p.2.2.1 + 1 ∧ p.1 ≤ p.2.1 ∧ p.2.1 < ((o + t.len : Nat) : Int)
 | .nil, _, _, _, _, _, _, p, hp => by simp [Tr.flat, pcs] at hp
 | .one x r, _, _, _, o, ⟨h1, h2, _, h4⟩, ho, p, hp => by
  simp only [Tr.len] at ho ⊢
  rw [pcs_one h1 h2 (by omega)] at hp
  have := ar_in h4 (by omega) p hp
  omega
 | .lk a b r, _, _, _, o, ⟨h1, _, h3, h4⟩, ho, p, hp => by
  simp only [Tr.len] at ho ⊢
  rw [pcs_lk h1 (by omega)] at hp
  rcases List.mem_append.1 hp with hp | hp
  ·have := ar_in h3 (by omega) p hp; omega
  ·have := ar_in h4 (by omega) p hp; omega
 | .ar x b r, _, _, _, o, ⟨⟨h1, h2, h3⟩, _, h5, h6⟩, ho, p, hp => by
  simp only [Tr.len] at ho ⊢
  rw [pcs_ar h1 h2 (by omega)] at hp
  rcases List.mem_cons.1 hp with rfl | hp
  ·have := mayA_wd h1 h2
   simp only [arOf]; omega
  ·rcases List.mem_append.1 hp with hp | hp
   ·have := ar_in h5 (by omega) p hp; omega
   ·have := ar_in h6 (by omega) p hp; omega
theorem bad_off {p q : Ar} (hp : p.1 = p.2.2.1 + 1 ∧ p.1 ≤ p.2.1) (hq : q.1 = q.2.2.1 + 1 ∧ q.1 ≤ q.2.1) (h : p.2.1 < q.1 - 1 ∨ q.2.1 < p.1 - 1) : badA p q = false := by
 unfold badA inA apA hasA
 rw [← Bool.not_eq_true]
 simp only [Bool.or_eq_true, Bool.and_eq_true, Bool.not_eq_true', decide_eq_true_eq, Bool.or_eq_false_iff, Bool.and_eq_false_iff, decide_eq_false_iff_not]
 omega
theorem bad_in {p q : Ar} (hp : p.1 = p.2.2.1 + 1 ∧ p.1 ≤ p.2.1) (hq : q.1 = q.2.2.1 + 1 ∧ q.1 ≤ q.2.1) (h : q.1 ≤ p.1 - 1 ∧ p.2.1 ≤ q.2.1) : badA p q = false ∧ badA q p = false := by
 unfold badA inA apA hasA
 rw [← Bool.not_eq_true, ← Bool.not_eq_true]
 simp only [Bool.or_eq_true, Bool.and_eq_true, Bool.not_eq_true', decide_eq_true_eq, Bool.or_eq_false_iff, Bool.and_eq_false_iff, decide_eq_false_iff_not]
 omega
theorem ar_bad : ∀ {t : Tr} {d : Nat} {hs : List Int} {ia : Bool} {o : Nat}, Ok d hs ia t → o + t.len ≤ 9000 → ∀ p ∈ pcs o t.flat, ∀ q ∈ pcs o t.flat, badA p q = false
 | .nil, _, _, _, _, _, _, p, hp => by simp [Tr.flat, pcs] at hp
 | .one x r, _, _, _, o, ⟨h1, h2, _, h4⟩, ho, p, hp => by
  simp only [Tr.len] at ho
  rw [pcs_one h1 h2 (by omega)] at hp ⊢
  exact ar_bad h4 (by omega) p hp
 | .lk a b r, _, _, _, o, ⟨h1, _, h3, h4⟩, ho, p, hp => by
  simp only [Tr.len] at ho
  rw [pcs_lk h1 (by omega)] at hp ⊢
  intro q hq
  rcases List.mem_append.1 hp with hp | hp <;> rcases List.mem_append.1 hq with hq | hq
  ·exact ar_bad h3 (by omega) p hp q hq
  ·have := ar_in h3 (by omega) p hp; have := ar_in h4 (by omega) q hq
   exact bad_off (by omega) (by omega) (by omega)
  ·have := ar_in h4 (by omega) p hp; have := ar_in h3 (by omega) q hq
   exact bad_off (by omega) (by omega) (by omega)
  ·exact ar_bad h4 (by omega) p hp q hq
 | .ar x b r, _, _, _, o, ⟨⟨h1, h2, h3⟩, _, h5, h6⟩, ho, p, hp => by
  simp only [Tr.len] at ho
  rw [pcs_ar h1 h2 (by omega)] at hp ⊢
  intro q hq
  have hw := mayA_wd h1 h2
  have e1 : (arOf o x).1 = ((o + 1 : Nat) : Int) := rfl
  have e2 : (arOf o x).2.1 = ((o + wd x : Nat) : Int) := rfl
  have e3 : (arOf o x).2.2.1 = (o : Int) := rfl
  rcases List.mem_cons.1 hp with rfl | hp <;> rcases List.mem_cons.1 hq with rfl | hq
  ·exact bad_self (by omega)
  ·rcases List.mem_append.1 hq with hq | hq
   ·have := ar_in h5 (by omega) q hq
    exact (bad_in (by omega) (by omega) (by omega)).2
   ·have := ar_in h6 (by omega) q hq
    exact bad_off (by omega) (by omega) (by omega)
  ·rcases List.mem_append.1 hp with hp | hp
   ·have := ar_in h5 (by omega) p hp
    exact (bad_in (by omega) (by omega) (by omega)).1
   ·have := ar_in h6 (by omega) p hp
    exact bad_off (by omega) (by omega) (by omega)
  ·rcases List.mem_append.1 hp with hp | hp <;> rcases List.mem_append.1 hq with hq | hq
   ·exact ar_bad h5 (by omega) p hp q hq
   ·have := ar_in h5 (by omega) p hp; have := ar_in h6 (by omega) q hq
    exact bad_off (by omega) (by omega) (by omega)
   ·have := ar_in h6 (by omega) p hp; have := ar_in h5 (by omega) q hq
    exact bad_off (by omega) (by omega) (by omega)
   ·exact ar_bad h6 (by omega) p hp q hq
theorem has_iff {p : Ar} {j : Int} : hasA p j = true ↔ p.1 ≤ j ∧ j ≤ p.2.1 := by simp [hasA]
theorem cB_app (j : Int) (a b : List Ar) : cB j (a ++ b) = cB j a + cB j b := List.countP_append
theorem cB_zero {j : Int} {a : List Ar} (h : ∀ p ∈ a, ¬ (p.1 ≤ j ∧ j ≤ p.2.1)) : cB j a = 0 := by
 rw [cB, List.countP_eq_zero]
 intro p hp
 rw [Bool.not_eq_true, Bool.and_eq_false_iff]
 right
 rw [← Bool.not_eq_true, has_iff]
 exact h p hp
theorem ar_bodies : ∀ {t : Tr} {d : Nat} {hs : List Int} {ia : Bool} {o : Nat}, Ok d hs ia t → o + t.len ≤ 9000 → d ≤ 2 → ∀ j : Int, cB j (pcs o t.flat) + d ≤ 2
 | .nil, _, _, _, _, _, _, hd, j => by simp [Tr.flat, pcs, cB]; exact hd
 | .one x r, _, _, _, o, ⟨h1, h2, _, h4⟩, ho, hd, j => by
  simp only [Tr.len] at ho
  rw [pcs_one h1 h2 (by omega)]
  exact ar_bodies h4 (by omega) hd j
 | .lk a b r, _, _, _, o, ⟨h1, _, h3, h4⟩, ho, hd, j => by
  simp only [Tr.len] at ho
  rw [pcs_lk h1 (by omega), cB_app]
  have i1 := ar_bodies (o := o + 1) h3 (by omega) hd j
  have i2 := ar_bodies (o := o + b.len + 2) h4 (by omega) hd j
  by_cases hj : j < ((o + 1 + b.len : Nat) : Int)
  ·rw [cB_zero (a := pcs (o + b.len + 2) r.flat) (fun p hp => by have := ar_in h4 (by omega) p hp; omega)]; omega
  ·rw [cB_zero (a := pcs (o + 1) b.flat) (fun p hp => by have := ar_in h3 (by omega) p hp; omega)]; omega
 | .ar x b r, d, _, _, o, ⟨⟨h1, h2, h3⟩, h4, h5, h6⟩, ho, hd, j => by
  simp only [Tr.len] at ho
  have hw := mayA_wd h1 h2
  rw [pcs_ar h1 h2 (by omega), show ∀ a : Ar, ∀ l, a :: l = [a] ++ l from fun _ _ => rfl, cB_app, cB_app]
  have i2 := ar_bodies (o := o + b.len + 1) h6 (by omega) hd j
  have e : cB j [arOf o x] = if (x.1 == 8 && hasA (arOf o x) j) = true then 1 else 0 := by
   rw [cB, List.countP_cons, List.countP_nil]; simp [arOf]
  by_cases hj : j < ((o + 1 + b.len : Nat) : Int)
  ·rw [cB_zero (a := pcs (o + b.len + 1) r.flat) (fun p hp => by have := ar_in h6 (by omega) p hp; omega), e]
   cases h8 : x.1 == 8 with
   | true =>
    have := h4 (eq_of_beq h8)
    have i1 := ar_bodies (o := o + 1) h5 (by omega) (by rw [h8, cond_true]; omega) j
    rw [h8, cond_true] at i1
    split <;> omega
   | false =>
    have i1 := ar_bodies (o := o + 1) h5 (by omega) (by rw [h8, cond_false]; omega) j
    rw [h8, cond_false] at i1
    simp only [Bool.false_and, Bool.false_eq_true, if_false]
    omega
  ·rw [cB_zero (a := pcs (o + 1) b.flat) (fun p hp => by have := ar_in h5 (by omega) p hp; omega), e, if_neg]
   ·omega
   ·rw [Bool.and_eq_true, has_iff]
    have e1 : (arOf o x).2.1 = ((o + wd x : Nat) : Int) := rfl
    omega
end Go.Proofs.YteflacbgobpmcaaGreat.Ab

/- Pairs of a tree; a tree with an end behind it is a program that may be. -/
namespace Go.Proofs.YteflacbgobpmcaaGreat.Ab
open Go.RowKit Tr
set_option linter.unusedSimpArgs false
set_option linter.unusedVariables false
def At (l : List I4) (o : Nat) (w : List I4) : Prop := o + w.length ≤ l.length ∧ ∀ j, j < w.length → l.getD (o + j) i0 = w.getD j i0
theorem At_cons {l : List I4} {o : Nat} {x : I4} {w : List I4} (h : At l o (x :: w)) : o < l.length ∧ l.getD o i0 = x ∧ At l (o + 1) w := by
 obtain ⟨h1, h2⟩ := h
 simp only [List.length_cons] at h1 h2
 refine ⟨by omega, by simpa using h2 0 (by omega), by omega, fun j hj => ?_⟩
 have := h2 (j + 1) (by omega)
 rw [List.getD_cons_succ] at this
 rw [← this]; congr 1; omega
theorem At_app {l : List I4} {o : Nat} {u w : List I4} (h : At l o (u ++ w)) : At l o u ∧ At l (o + u.length) w := by
 obtain ⟨h1, h2⟩ := h
 simp only [List.length_append] at h1 h2
 refine ⟨⟨by omega, fun j hj => ?_⟩, by omega, fun j hj => ?_⟩
 ·rw [h2 j (by omega), getD_app_l hj]
 ·rw [show o + u.length + j = o + (u.length + j) by omega, h2 _ (by omega), getD_app_r (by omega)]
  congr 1; omega
theorem At_self (l : List I4) : At l 0 l := ⟨by omega, fun j _ => by rw [Nat.zero_add]⟩
def prT : Tr → Nat → List Int → List Int
 | .nil, _, out => out
 | .one _ r, o, out => prT r (o + 1) out
 | .lk _ b r, o, out => prT r (o + b.len + 2) ((prT b (o + 1) out).set o ((o + b.len + 1 : Nat) : Int))
 | .ar _ b r, o, out => prT r (o + b.len + 1) (prT b (o + 1) out)
theorem prT_len : ∀ (t : Tr) (o : Nat) (out : List Int), (prT t o out).length = out.length
 | .nil, _, _ => rfl
 | .one _ r, o, out => by rw [prT, prT_len r]
 | .lk _ b r, o, out => by rw [prT, prT_len r, List.length_set, prT_len b]
 | .ar _ b r, o, out => by rw [prT, prT_len r, prT_len b]
theorem prT_out : ∀ (t : Tr) (o : Nat) (out : List Int) (k : Nat), k < o ∨ o + t.len ≤ k → (prT t o out).getD k 0 = out.getD k 0
 | .nil, _, _, _, _ => rfl
 | .one _ r, o, out, k, h => by simp only [Tr.len] at h; rw [prT, prT_out r _ _ k (by omega)]
 | .lk _ b r, o, out, k, h => by
  simp only [Tr.len] at h
  rw [prT, prT_out r _ _ k (by omega), set_get, if_neg (by omega), prT_out b _ _ k (by omega)]
 | .ar _ b r, o, out, k, h => by
  simp only [Tr.len] at h
  rw [prT, prT_out r _ _ k (by omega), prT_out b _ _ k (by omega)]
theorem prT_le : ∀ (t : Tr) (o : Nat) (out : List Int) (k : Nat) (m : Nat), o + t.len ≤ m → out.getD k 0 < (m : Int) → (prT t o out).getD k 0 < (m : Int)
 | .nil, _, _, _, _, _, h => h
 | .one _ r, o, out, k, m, h1, h2 => by simp only [Tr.len] at h1; rw [prT]; exact prT_le r _ _ k m (by omega) h2
 | .lk _ b r, o, out, k, m, h1, h2 => by
  simp only [Tr.len] at h1
  rw [prT]
  refine prT_le r _ _ k m (by omega) ?_
  rw [set_get]
  split
  ·omega
  ·exact prT_le b _ _ k m (by omega) h2
 | .ar _ b r, o, out, k, m, h1, h2 => by
  simp only [Tr.len] at h1
  rw [prT]
  exact prT_le r _ _ k m (by omega) (prT_le b _ _ k m (by omega) h2)
def OutW (l : List I4) (o len : Nat) : Prop := ∀ n, n < o → o + len ≤ n + wd (l.getD n i0) + 1 ∨ n + wd (l.getD n i0) < o
theorem wd_in : ∀ {t : Tr} {d : Nat} {hs : List Int} {ia : Bool} {l : List I4} {o : Nat}, Ok d hs ia t → At l o t.flat → ∀ n, o ≤ n → n < o + t.len → n + wd (l.getD n i0) < o + t.len
 | .nil, _, _, _, _, _, _, _, n, h1, h2 => by simp only [Tr.len] at h2; omega
 | .one x r, _, _, _, l, o, ⟨h1, h2, _, h4⟩, ha, n, hn1, hn2 => by
  simp only [Tr.len] at hn2 ⊢
  obtain ⟨a1, a2, a3⟩ := At_cons ha
  by_cases e : n = o
  ·subst e; rw [a2, wd_zero (plain_A h2)]; omega
  ·have := wd_in h4 a3 n (by omega) (by omega); omega
 | .lk a b r, _, _, _, l, o, ⟨h1, _, h3, h4⟩, ha, n, hn1, hn2 => by
  simp only [Tr.len] at hn2 ⊢
  obtain ⟨a1, a2, a3⟩ := At_cons ha
  obtain ⟨a4, a5⟩ := At_app a3
  obtain ⟨a6, a7, a8⟩ := At_cons a5
  rw [flat_len] at a6 a7 a8
  by_cases e : n = o
  ·subst e; rw [a2, wd_zero rfl]; omega
  ·by_cases e2 : n < o + 1 + b.len
   ·have := wd_in h3 a4 n (by omega) (by omega); omega
   ·by_cases e3 : n = o + 1 + b.len
    ·subst e3; rw [a7, wd_zero rfl]; omega
    ·have := wd_in h4 a8 n (by omega) (by omega); omega
 | .ar x b r, _, _, _, l, o, ⟨⟨h1, h2, h3⟩, _, h5, h6⟩, ha, n, hn1, hn2 => by
  simp only [Tr.len] at hn2 ⊢
  obtain ⟨a1, a2, a3⟩ := At_cons ha
  obtain ⟨a4, a5⟩ := At_app a3
  rw [flat_len] at a5
  by_cases e : n = o
  ·subst e; rw [a2, h3]; omega
  ·by_cases e2 : n < o + 1 + b.len
   ·have := wd_in h5 a4 n (by omega) (by omega); omega
   ·have := wd_in h6 a5 n (by omega) (by omega); omega
theorem sepA_none {l : List I4} (hm : ∀ x ∈ l, mayI x = true) (hl : l.length ≤ 900) {i j : Nat} : sepA l i j = false ↔ ∀ n, n < l.length → isA (l.getD n i0) = true → ((n < i ∧ i ≤ n + wd (l.getD n i0)) ↔ (n < j ∧ j ≤ n + wd (l.getD n i0))) := by
 unfold sepA
 rw [List.any_eq_false]
 have hh : ∀ (n k : Nat), hasA (arOf n (l.getD n i0)) (k : Int) = true ↔ n < k ∧ k ≤ n + wd (l.getD n i0) := fun n k => by
  rw [has_iff]; simp only [arOf]; omega
 constructor
 ·intro h n hn ha
  have := h (arOf n (l.getD n i0)) ((pcs_mem_iff l 0 _ hm (by omega)).2 ⟨n, hn, ha, by rw [Nat.zero_add]⟩)
  simp only [bne_iff_ne, ne_eq, Decidable.not_not] at this
  rw [Bool.eq_iff_iff, hh, hh] at this
  exact this
 ·intro h p hp
  obtain ⟨n, hn, ha, rfl⟩ := (pcs_mem_iff l 0 p hm (by omega)).1 hp
  rw [Nat.zero_add]
  simp only [bne_iff_ne, ne_eq, Decidable.not_not]
  rw [Bool.eq_iff_iff, hh, hh]
  exact h n hn ha
theorem prGo_tree {l : List I4} (hm : ∀ x ∈ l, mayI x = true) (hl : l.length ≤ 900) : ∀ {t : Tr} {d : Nat} {hs : List Int} {ia : Bool} {o : Nat} (m : Nat) (out open_ : List Int), Ok d hs ia t → At l o t.flat → OutW l o t.len → open_.map (fun k => (rd l k i0).2.1) = hs → (∀ k ∈ open_, 0 ≤ k ∧ k < (o : Int)) →
  prGo l (t.len + m) o (out, open_) = prGo l m (o + t.len) (prT t o out, open_)
 | .nil, _, _, _, _, m, out, open_, _, _, _, _, _ => by simp only [Tr.len, Nat.zero_add, Nat.add_zero, prT]
 | .one x r, _, _, _, o, m, out, open_, ⟨h1, h2, _, h4⟩, ha, ho, hs, hk => by
  simp only [Tr.len] at ho ⊢
  obtain ⟨a1, a2, a3⟩ := At_cons ha
  rw [show r.len + 1 + m = (r.len + m) + 1 by omega, prGo]
  have hp : prStep l o (out, open_) = some (out, open_) := by
   unfold prStep; rw [a2, if_neg h2.2.2.2.1, if_neg h2.2.2.2.2]
  rw [hp, Option.bind_some, prGo_tree hm hl m out open_ h4 a3 (fun n hn => by
   by_cases e : n = o
   ·subst e; right; rw [a2, wd_zero (plain_A h2)]; omega
   ·have := ho n (by omega); omega) hs (fun k hk' => by have := hk k hk'; omega), prT]
  congr 1; omega
 | .lk a b r, _, hs, _, o, m, out, open_, ⟨h1, h2, h3, h4⟩, ha, ho, hhs, hk => by
  simp only [Tr.len] at ho ⊢
  obtain ⟨a1, a2, a3⟩ := At_cons ha
  obtain ⟨a4, a5⟩ := At_app a3
  obtain ⟨a6, a7, a8⟩ := At_cons a5
  rw [flat_len] at a6 a7 a8
  have hlen : open_.length = hs.length := by rw [← hhs, List.length_map]
  have hsame : sameS l open_ o = false := by
   unfold sameS
   rw [List.any_eq_false]
   intro k hk'
   rw [rd_nat, a2]
   have : (rd l k i0).2.1 ∈ hs := by rw [← hhs]; exact List.mem_map.2 ⟨k, hk', rfl⟩
   intro e
   have e := eq_of_beq e
   simp only at e
   rw [e] at this
   exact h2.1 this
  have hp : prStep l o (out, open_) = some (out, open_ ++ [(o : Int)]) := by
   unfold prStep
   rw [a2, if_pos rfl, if_neg]
   rintro (h | h)
   ·simp only at h; omega
   ·rw [show sameS l open_ (o : Int) = true from h] at hsame; cases hsame
  rw [show b.len + r.len + 2 + m = (b.len + (r.len + m + 1)) + 1 by omega, prGo, hp, Option.bind_some]
  rw [prGo_tree hm hl (r.len + m + 1) out (open_ ++ [(o : Int)]) h3 a4 (fun n hn => by
   by_cases e : n = o
   ·subst e; right; rw [a2, wd_zero rfl]; omega
   ·have := ho n (by omega); omega) (by rw [List.map_append, hhs, List.map_cons, List.map_nil, rd_nat, a2]) (fun k hk' => by
   rcases List.mem_append.1 hk' with hk' | hk'
   ·have := hk k hk'; omega
   ·have := List.mem_singleton.1 hk'; omega)]
  have hsep : sepA l o (o + 1 + b.len : Nat) = false := by
   rw [sepA_none hm hl]
   intro n hn hA
   by_cases e : n < o
   ·have := ho n e; omega
   ·by_cases e2 : n = o
    ·subst e2; rw [a2] at hA; exact absurd hA (by simp [isA])
    ·by_cases e3 : n < o + 1 + b.len
     ·have := wd_in h3 a4 n (by omega) e3; omega
     ·omega
  have hp2 : prStep l (o + 1 + b.len) (prT b (o + 1) out, open_ ++ [(o : Int)]) = some ((prT b (o + 1) out).set o ((o + b.len + 1 : Nat) : Int), open_) := by
   unfold prStep
   rw [a7, if_neg (by simp), if_pos rfl, show (prT b (o + 1) out, open_ ++ [(o : Int)]).2.getLast? = some (o : Int) by simp]
   simp only
   rw [if_neg]
   ·simp only [List.dropLast_concat, upd_nat]
    congr 3; congr 1; omega
   ·rintro (h | h)
    ·rw [rd_nat, a2] at h; exact h rfl
    ·rw [show sepA l (((o : Int).toNat : Nat) : Int) ((o + 1 + b.len : Nat) : Int) = false from hsep] at h; cases h
  rw [prGo, hp2, Option.bind_some, show o + 1 + b.len + 1 = o + b.len + 2 by omega]
  rw [show o + 1 + b.len + 1 = o + b.len + 2 by omega] at a8
  rw [prGo_tree hm hl m _ open_ h4 a8 (fun n hn => by
   by_cases e : n < o
   ·have := ho n e; omega
   ·by_cases e2 : n = o
    ·subst e2; right; rw [a2, wd_zero rfl]; omega
    ·by_cases e3 : n < o + 1 + b.len
     ·have := wd_in h3 a4 n (by omega) e3; omega
     ·have : n = o + 1 + b.len := by omega
      subst this; right; rw [a7, wd_zero rfl]; omega) hhs (fun k hk' => by have := hk k hk'; omega), prT]
  congr 1; omega
 | .ar x b r, _, hs, _, o, m, out, open_, ⟨⟨h1, h2, h3⟩, _, h5, h6⟩, ha, ho, hhs, hk => by
  simp only [Tr.len] at ho ⊢
  obtain ⟨a1, a2, a3⟩ := At_cons ha
  obtain ⟨a4, a5⟩ := At_app a3
  rw [flat_len] at a5
  have h9 : x.1 ≠ 9 := fun e => by simp [isA, e] at h2
  have h10 : x.1 ≠ 10 := fun e => by simp [isA, e] at h2
  have hp : prStep l o (out, open_) = some (out, open_) := by
   unfold prStep; rw [a2, if_neg h9, if_neg h10]
  rw [show b.len + r.len + 1 + m = (b.len + (r.len + m)) + 1 by omega, prGo, hp, Option.bind_some]
  rw [prGo_tree hm hl (r.len + m) out open_ h5 a4 (fun n hn => by
   by_cases e : n = o
   ·subst e; left; rw [a2, h3]; omega
   ·have := ho n (by omega); omega) hhs (fun k hk' => by have := hk k hk'; omega)]
  rw [show o + 1 + b.len = o + b.len + 1 by omega] at a5 ⊢
  rw [prGo_tree hm hl m _ open_ h6 a5 (fun n hn => by
   by_cases e : n < o
   ·have := ho n e; omega
   ·by_cases e2 : n = o
    ·subst e2; right; rw [a2, h3]; omega
    ·have := wd_in h5 a4 n (by omega) (by omega); omega) hhs (fun k hk' => by have := hk k hk'; omega), prT]
  congr 1; omega
theorem mark_in : ∀ {t : Tr} {d : Nat} {hs : List Int} {ia : Bool} {l : List I4} {o : Nat}, Ok d hs ia t → At l o t.flat → ∀ i, o ≤ i → i < o + t.len → (l.getD i i0).1 = 11 → ia = false ∧ hs = [] ∧ (∀ n, o ≤ n → n < i → n + wd (l.getD n i0) < i) ∧ ∀ (out : List Int) (k : Nat), o ≤ k → k < i → out.getD k 0 < (i : Int) → (prT t o out).getD k 0 < (i : Int)
 | .nil, _, _, _, _, _, _, _, i, h1, h2, _ => by simp only [Tr.len] at h2; omega
 | .one x r, _, _, _, l, o, ⟨h1, h2, h3, h4⟩, ha, i, hi1, hi2, he => by
  simp only [Tr.len] at hi2
  obtain ⟨a1, a2, a3⟩ := At_cons ha
  by_cases e : i = o
  ·subst e; rw [a2] at he
   exact ⟨(h3 he).1, (h3 he).2, fun n _ _ => by omega, fun _ k _ _ => by omega⟩
  ·obtain ⟨i1, i2, i3, i4⟩ := mark_in h4 a3 i (by omega) (by omega) he
   refine ⟨i1, i2, fun n hn1 hn2 => ?_, fun out k hk1 hk2 hk3 => ?_⟩
   ·by_cases e2 : n = o
    ·subst e2; rw [a2, wd_zero (plain_A h2)]; omega
    ·exact i3 n (by omega) hn2
   ·rw [prT]
    by_cases e2 : k = o
    ·rw [prT_out r _ _ k (by omega)]; exact hk3
    ·exact i4 out k (by omega) hk2 hk3
 | .lk a b r, _, hs, _, l, o, ⟨h1, _, h3, h4⟩, ha, i, hi1, hi2, he => by
  simp only [Tr.len] at hi2
  obtain ⟨a1, a2, a3⟩ := At_cons ha
  obtain ⟨a4, a5⟩ := At_app a3
  obtain ⟨a6, a7, a8⟩ := At_cons a5
  rw [flat_len] at a6 a7 a8
  by_cases e : i = o
  ·subst e; rw [a2] at he; exact absurd he (by decide : (9 : Int) ≠ 11)
  ·by_cases e2 : i < o + 1 + b.len
   ·have := (mark_in h3 a4 i (by omega) e2 he).2.1
    simp at this
   ·by_cases e3 : i = o + 1 + b.len
    ·subst e3; rw [a7] at he; exact absurd he (by decide : (10 : Int) ≠ 11)
    ·obtain ⟨i1, i2, i3, i4⟩ := mark_in h4 a8 i (by omega) (by omega) he
     refine ⟨i1, i2, fun n hn1 hn2 => ?_, fun out k hk1 hk2 hk3 => ?_⟩
     ·by_cases f1 : n = o
      ·subst f1; rw [a2, wd_zero rfl]; omega
      ·by_cases f2 : n < o + 1 + b.len
       ·have := wd_in h3 a4 n (by omega) f2; omega
       ·by_cases f3 : n = o + 1 + b.len
        ·subst f3; rw [a7, wd_zero rfl]; omega
        ·exact i3 n (by omega) hn2
     ·rw [prT, show o + b.len + 2 = o + 1 + b.len + 1 by omega]
      have key : ((prT b (o + 1) out).set o ((o + b.len + 1 : Nat) : Int)).getD k 0 < (i : Int) := by
       rw [set_get]
       split
       ·omega
       ·exact prT_le b _ _ k i (by omega) hk3
      by_cases f : o + 1 + b.len + 1 ≤ k
      ·exact i4 _ k f hk2 key
      ·rw [prT_out r _ _ k (by omega)]; exact key
 | .ar x b r, _, _, _, l, o, ⟨⟨h1, h2, h3⟩, _, h5, h6⟩, ha, i, hi1, hi2, he => by
  simp only [Tr.len] at hi2
  obtain ⟨a1, a2, a3⟩ := At_cons ha
  obtain ⟨a4, a5⟩ := At_app a3
  rw [flat_len] at a5
  by_cases e : i = o
  ·subst e; rw [a2] at he; simp [isA, he] at h2
  ·by_cases e2 : i < o + 1 + b.len
   ·have := (mark_in h5 a4 i (by omega) e2 he).1
    cases this
   ·obtain ⟨i1, i2, i3, i4⟩ := mark_in h6 a5 i (by omega) (by omega) he
    refine ⟨i1, i2, fun n hn1 hn2 => ?_, fun out k hk1 hk2 hk3 => ?_⟩
    ·by_cases f1 : n = o
     ·subst f1; rw [a2, h3]; omega
     ·by_cases f2 : n < o + 1 + b.len
      ·have := wd_in h5 a4 n (by omega) f2; omega
      ·exact i3 n (by omega) hn2
    ·rw [prT, show o + b.len + 1 = o + 1 + b.len by omega]
     have key : (prT b (o + 1) out).getD k 0 < (i : Int) := prT_le b _ _ k i (by omega) hk3
     by_cases f : o + 1 + b.len ≤ k
     ·exact i4 _ k f hk2 key
     ·rw [prT_out r _ _ k (by omega)]; exact key
def Tr.prog (t : Tr) : List I4 := t.flat ++ [i0]
theorem prog_len (t : Tr) : t.prog.length = t.len + 1 := by unfold Tr.prog; rw [List.length_append, flat_len]; rfl
theorem prog_may {t : Tr} (h : Ok 0 [] false t) : ∀ x ∈ t.prog, mayI x = true := by
 intro x hx
 rcases List.mem_append.1 hx with hx | hx
 ·exact Ok_may h x hx
 ·rw [List.mem_singleton.1 hx]; rfl
theorem prog_at (t : Tr) : At t.prog 0 t.flat := (At_app (At_self t.prog)).1
theorem prog_end (t : Tr) : t.prog.getD t.len i0 = i0 := by
 unfold Tr.prog
 rw [getD_app_r (by rw [flat_len]; omega), flat_len, Nat.sub_self]; rfl
theorem prog_pcs {t : Tr} (hl : t.len ≤ 900) : pcs 0 t.prog = pcs 0 t.flat := by
 unfold Tr.prog
 rw [pcs_app, pcs_plain rfl rfl _ (by rw [flat_len]; omega)]
 simp [pcs]
theorem good_tree {t : Tr} (h : Ok 0 [] false t) (hl : t.len < 24) : GoodA t.prog (prT t 0 (List.replicate (t.len + 1) 0)) := by
 have hm := prog_may h
 have hpl := prog_len t
 have hpc := prog_pcs (t := t) (by omega)
 have hin := fun p hp => ar_in (o := 0) h (by omega) p hp
 have hprs : prs t.prog = some (prT t 0 (List.replicate (t.len + 1) 0)) := by
  have := prGo_tree hm (by omega) (o := 0) 1 (List.replicate t.prog.length 0) [] h (prog_at t) (fun n hn => by omega) rfl (fun k hk => by cases hk)
  unfold prs
  rw [hpl] at this ⊢
  rw [this, prGo, Nat.zero_add]
  unfold prStep
  rw [prog_end, if_neg (by decide), if_neg (by decide)]
  rfl
 refine ⟨by omega, by omega, hm, fun i hi => ?_, fun p hp => ?_, fun p hp q hq => ?_, fun j hj => ?_, hprs, fun i hi e => ⟨?_, fun k hk => ?_⟩⟩
 ·by_cases e : i < t.len
  ·have : (t.prog.getD i i0).1 ≠ 0 := by
    unfold Tr.prog
    rw [getD_app_l (by rw [flat_len]; exact e)]
    exact Ok_op h _ (getD_mem (by rw [flat_len]; exact e))
   exact ⟨fun h => absurd h this, fun h => by omega⟩
  ·have : i = t.len := by omega
   subst this
   rw [prog_end]
   exact ⟨fun _ => by omega, fun _ => rfl⟩
 ·rw [hpc] at hp
  have := hin p hp; omega
 ·rw [hpc] at hp hq
  exact ar_bad h (by omega) p hp q hq
 ·rw [hpc]
  have := ar_bodies (o := 0) h (by omega) (by omega) (j : Int); omega
 ·have hlt : i < t.len := by
   by_cases e2 : i < t.len
   ·exact e2
   ·have : i = t.len := by omega
    subst this; rw [prog_end] at e; exact absurd e (by decide)
  obtain ⟨_, _, i3, _⟩ := mark_in h (prog_at t) i (by omega) (by omega) e
  rw [List.any_eq_false]
  intro p hp
  obtain ⟨n, hn, ha, rfl⟩ := (pcs_mem_iff t.prog 0 p hm (by omega)).1 hp
  rw [has_iff]
  simp only [arOf]
  rintro ⟨h1, h2⟩
  have := i3 n (by omega) (by omega)
  omega
 ·have hlt : i < t.len := by
   by_cases e2 : i < t.len
   ·exact e2
   ·have : i = t.len := by omega
    subst this; rw [prog_end] at e; exact absurd e (by decide)
  obtain ⟨_, _, _, i4⟩ := mark_in h (prog_at t) i (by omega) (by omega) e
  have := i4 (List.replicate (t.len + 1) 0) k (by omega) hk (by
   rw [List.getD_eq_getElem?_getD, List.getElem?_replicate]; split <;> simp <;> omega)
  omega
end Go.Proofs.YteflacbgobpmcaaGreat.Ab

/- Programs made of numbers are trees. -/
namespace Go.Proofs.YteflacbgobpmcaaGreat.Ab
open Go.RowKit Tr
set_option linter.unusedSimpArgs false
set_option linter.unusedVariables false
def PkOK (p : List Int) (n : Int) : Prop := (p.length ≤ 1000 ∧ 0 ≤ n ∧ n ≤ (p.length : Int)) ∧ ∀ x ∈ p, 0 ≤ x ∧ x ≤ 255
theorem S6_eq (k : Nat) {p : List Int} {n m : Int} (h : PkOK p n) (hm : 0 < m) : ∃ v n', S6 k p n m = some ((v, ()), (p, n', ()), ()) ∧ (0 ≤ v ∧ v < m) ∧ PkOK p n' := by
 obtain ⟨⟨h1, h2, h3⟩, h4⟩ := h
 unfold S6
 by_cases e : n ≥ (p.length : Int)
 ·rw [bif_t e]; exact ⟨0, n, rfl, by omega, ⟨h1, h2, h3⟩, h4⟩
 ·rw [bif_f e, w64 (n := n + 1) (by omega) (by omega), show n + 1 - 1 = n by omega, w64 (n := n) (by omega) (by omega), ix_ok h2 (by omega), nz_ok (by omega)]
  obtain ⟨j, rfl⟩ : ∃ j : Nat, n = (j : Int) := ⟨n.toNat, by omega⟩
  rw [rd_nat]
  have := h4 _ (getD_mem (z := 0) (l := p) (i := j) (by omega))
  rw [w64 (by omega) (by omega)]
  exact ⟨_, _, rfl, ⟨Int.tmod_nonneg _ this.1, Int.tmod_lt_of_pos _ hm⟩, ⟨h1, by omega, by omega⟩, h4⟩
theorem mem3 {a : Int} (h : 0 ≤ a ∧ a < 3) : memI a = true := by simp [memI]; omega
theorem S61_eq (k : Nat) {p : List Int} {n : Int} (h : PkOK p n) : ∃ x n', S61 k p n = some ((x, ()), (p, n', ()), ()) ∧ (mayI x = true ∧ 1 ≤ x.1 ∧ x.1 ≤ 6 ∧ x.2.1 < 3) ∧ PkOK p n' := by
 unfold S61
 obtain ⟨a, n1, e1, ha, h1⟩ := S6_eq k (m := 3) h (by omega)
 rw [e1, Option.bind_some]
 obtain ⟨b, n2, e2, hb, h2⟩ := S6_eq k (m := 3) h1 (by omega)
 simp only
 rw [e2, Option.bind_some]
 obtain ⟨c, n3, e3, hc, h3⟩ := S6_eq k (m := 6) h2 (by omega)
 simp only
 rw [e3, Option.bind_some]
 simp only
 have ma := mem3 ha
 have mb := mem3 hb
 have hc6 : c = 0 ∨ c = 1 ∨ c = 2 ∨ c = 3 ∨ c = 4 ∨ c = 5 := by omega
 rcases hc6 with rfl | rfl | rfl | rfl | rfl | rfl
 ·obtain ⟨d, n4, e4, hd, h4⟩ := S6_eq k (m := 9) h3 (by omega)
  rw [show ((0 : Int) == 0) = true from rfl, cond_true, e4, Option.bind_some]
  simp only
  rw [w64 (by omega) (by omega)]
  exact ⟨_, _, rfl, ⟨by simp [mayI, ma, witI]; omega, by simp, by simp, ha.2⟩, h4⟩
 ·exact ⟨_, _, rfl, ⟨by simp [mayI, ma, mb], by simp, by simp, ha.2⟩, h3⟩
 ·exact ⟨_, _, rfl, ⟨by simp [mayI, ma, mb], by simp, by simp, ha.2⟩, h3⟩
 ·exact ⟨_, _, rfl, ⟨by simp [mayI, ma, mb], by simp, by simp, ha.2⟩, h3⟩
 ·obtain ⟨d, n4, e4, hd, h4⟩ := S6_eq k (m := 7) h3 (by omega)
  rw [show ((4 : Int) == 0) = false from rfl, show ((4 : Int) == 1) = false from rfl, show ((4 : Int) == 2) = false from rfl, show ((4 : Int) == 3) = false from rfl, show ((4 : Int) == 4) = true from rfl, cond_false, cond_false, cond_false, cond_false, cond_true, e4, Option.bind_some]
  simp only
  rw [w64 (by omega) (by omega)]
  exact ⟨_, _, rfl, ⟨by simp [mayI, ma, witI]; omega, by simp, by simp, ha.2⟩, h4⟩
 ·obtain ⟨d, n4, e4, hd, h4⟩ := S6_eq k (m := 64) h3 (by omega)
  rw [show ((5 : Int) == 0) = false from rfl, show ((5 : Int) == 1) = false from rfl, show ((5 : Int) == 2) = false from rfl, show ((5 : Int) == 3) = false from rfl, show ((5 : Int) == 4) = false from rfl, cond_false, cond_false, cond_false, cond_false, cond_false, e4, Option.bind_some]
  simp only
  rw [w64 (by omega) (by omega)]
  exact ⟨_, _, rfl, ⟨by simp [mayI, ma, witI]; omega, by simp, by simp, ha.2⟩, h4⟩
theorem plain_16 {x : I4} (h : 1 ≤ x.1 ∧ x.1 ≤ 6 ∧ x.2.1 < 3) : plain x ∧ x.1 ≠ 11 := by unfold plain; omega
def semT (n : Int) : Tr → Prop
 | .nil => True
 | .one _ r => semT n r
 | .lk a b r => (0 ≤ a ∧ a < n) ∧ semT n b ∧ semT n r
 | .ar _ b r => semT n b ∧ semT n r
def simpleT : Tr → Prop
 | .nil => True
 | .one x r => (1 ≤ x.1 ∧ x.1 ≤ 6 ∧ x.2.1 < 3) ∧ simpleT r
 | .lk _ b r => simpleT b ∧ simpleT r
 | .ar _ _ _ => False
theorem semT_app {n : Int} : ∀ {t u : Tr}, semT n t → semT n u → semT n (t.app u)
 | .nil, _, _, h => h
 | .one _ r, _, h1, h => semT_app (t := r) h1 h
 | .lk _ _ _, _, h1, h => ⟨h1.1, h1.2.1, semT_app h1.2.2 h⟩
 | .ar _ b r, _, h1, h => ⟨h1.1, semT_app h1.2 h⟩
theorem simple_app : ∀ {t u : Tr}, simpleT t → simpleT u → simpleT (t.app u)
 | .nil, _, _, h => h
 | .one _ r, _, h1, h => ⟨h1.1, simple_app h1.2 h⟩
 | .lk _ b r, _, h1, h => ⟨h1.1, simple_app h1.2 h⟩
 | .ar _ _ _, _, h1, _ => h1.elim
def lowT : Tr → Prop
 | .nil => True
 | .one x r => (x.1 ≤ 6 → x.2.1 < 3) ∧ lowT r
 | .lk _ b r => lowT b ∧ lowT r
 | .ar _ b r => lowT b ∧ lowT r
theorem simple_low : ∀ {t : Tr}, simpleT t → lowT t
 | .nil, _ => trivial
 | .one _ r, h => ⟨fun _ => h.1.2.2, simple_low h.2⟩
 | .lk _ b r, h => ⟨simple_low h.1, simple_low h.2⟩
 | .ar _ _ _, h => h.elim
theorem low_app : ∀ {t u : Tr}, lowT t → lowT u → lowT (t.app u)
 | .nil, _, _, h => h
 | .one _ r, _, h1, h => ⟨h1.1, low_app h1.2 h⟩
 | .lk _ b r, _, h1, h => ⟨h1.1, low_app h1.2 h⟩
 | .ar _ b r, _, h1, h => ⟨h1.1, low_app h1.2 h⟩
structure Pc (locks : Int) (t : Tr) : Prop where
 ok : ∀ d ia, Ok d [] ia t
 simple : simpleT t
 free : semT locks t
theorem Pc_nil (locks : Int) : Pc locks .nil := ⟨fun _ _ => trivial, trivial, trivial⟩
theorem Pc_one {locks : Int} {t : Tr} {x : I4} (h : Pc locks t) (hx : mayI x = true ∧ 1 ≤ x.1 ∧ x.1 ≤ 6 ∧ x.2.1 < 3) : Pc locks (t.app (.one x .nil)) :=
 have hp := plain_16 hx.2
 ⟨fun d ia => Ok_app (h.ok d ia) ⟨hx.1, hp.1, fun e => absurd e hp.2, trivial⟩, simple_app h.simple ⟨hx.2, trivial⟩, semT_app h.free trivial⟩
theorem Pc_lk {locks : Int} {t : Tr} {x : I4} {a : Int} (h : Pc locks t) (hx : mayI x = true ∧ 1 ≤ x.1 ∧ x.1 ≤ 6 ∧ x.2.1 < 3) (ha : 0 ≤ a ∧ a < locks) (hl : locks ≤ 4) : Pc locks (t.app (.lk a (.one x .nil) .nil)) :=
 have hp := plain_16 hx.2
 ⟨fun d ia => Ok_app (h.ok d ia) ⟨by omega, ⟨by simp, by simp⟩, ⟨hx.1, hp.1, fun e => absurd e hp.2, trivial⟩, trivial⟩, simple_app h.simple ⟨⟨hx.2, trivial⟩, trivial⟩, semT_app h.free ⟨ha, trivial, trivial⟩⟩
theorem L33_3_eq {k : Nat} (hk : 1000 ≤ k) {p : List Int} {locks : Int} (hl : 0 ≤ locks ∧ locks ≤ 4) : ∀ (m j : Nat) (n : Int) (t : Tr), m < j → m ≤ 100 → PkOK p n → Pc locks t → t.len + 3 * m ≤ 1000 →
  ∃ t' n', L33_3 k j p n locks t.flat (m : Int) = some ((t'.flat, ()), (p, n', ()), ()) ∧ PkOK p n' ∧ Pc locks t' ∧ t.len + m ≤ t'.len ∧ t'.len ≤ t.len + 3 * m
 | 0, j, n, t, hj, _, hp, ht, _ => by
  obtain ⟨j', rfl⟩ : ∃ j', j = j' + 1 := ⟨j - 1, by omega⟩
  rw [L33_3_s, l33_3, bif_f (by omega)]
  exact ⟨t, n, rfl, hp, ht, by omega, by omega⟩
 | m + 1, j, n, t, hj, hm, hp, ht, htl => by
  obtain ⟨j', rfl⟩ : ∃ j', j = j' + 1 := ⟨j - 1, by omega⟩
  rw [L33_3_s, l33_3, bif_t (by omega)]
  have hw : IntKind.i64.wrap (((m + 1 : Nat) : Int) - 1) = (m : Int) := by rw [w64 (by omega) (by omega)]; omega
  have ih := L33_3_eq hk (p := p) hl m j'
  have hfl := flat_len t
  by_cases e : locks > 0
  ·rw [bif_t e]
   obtain ⟨a, n1, e1, ha, h1⟩ := S6_eq k (m := 4) hp (by omega)
   rw [e1, Option.bind_some]
   simp only
   cases h0 : a == 0 with
   | true =>
    obtain ⟨b, n2, e2, hb, h2⟩ := S6_eq k (m := locks) h1 e
    rw [cond_true, e2, Option.bind_some]
    simp only
    rw [ap_ok (by simp only [List.length_cons, List.length_nil]; omega)]
    obtain ⟨x, n3, e3, hx, h3⟩ := S61_eq k h2
    rw [e3, Option.bind_some]
    simp only
    rw [ap_ok (by simp only [List.length_append, List.length_cons, List.length_nil]; omega), ap_ok (by simp only [List.length_append, List.length_cons, List.length_nil]; omega), hw]
    have hl1 : (t.app (.lk b (.one x .nil) .nil)).len = t.len + 3 := by rw [len_app]; rfl
    obtain ⟨t', n', h5, h6, h7, h8, h9⟩ := ih n3 (t.app (.lk b (.one x .nil) .nil)) (by omega) (by omega) h3 (Pc_lk ht hx hb hl.2) (by omega)
    rw [flat_app] at h5
    refine ⟨t', n', ?_, h6, h7, by omega, by omega⟩
    rw [← h5]
    simp only [Tr.flat, List.append_assoc, List.cons_append, List.nil_append]
   | false =>
    obtain ⟨x, n3, e3, hx, h3⟩ := S61_eq k h1
    rw [cond_false, e3, Option.bind_some]
    simp only
    rw [ap_ok (by simp only [List.length_cons, List.length_nil]; omega), hw]
    have hl1 : (t.app (.one x .nil)).len = t.len + 1 := by rw [len_app]; rfl
    obtain ⟨t', n', h5, h6, h7, h8, h9⟩ := ih n3 (t.app (.one x .nil)) (by omega) (by omega) h3 (Pc_one ht hx) (by omega)
    rw [flat_app] at h5
    exact ⟨t', n', h5, h6, h7, by omega, by omega⟩
  ·rw [bif_f e]
   obtain ⟨x, n3, e3, hx, h3⟩ := S61_eq k hp
   rw [e3, Option.bind_some]
   simp only
   rw [ap_ok (by simp only [List.length_cons, List.length_nil]; omega), hw]
   have hl1 : (t.app (.one x .nil)).len = t.len + 1 := by rw [len_app]; rfl
   obtain ⟨t', n', h5, h6, h7, h8, h9⟩ := ih n3 (t.app (.one x .nil)) (by omega) (by omega) h3 (Pc_one ht hx) (by omega)
   rw [flat_app] at h5
   exact ⟨t', n', h5, h6, h7, by omega, by omega⟩
theorem S33_eq {k : Nat} (hk : 1000 ≤ k) {p : List Int} {n locks : Int} (hl : 0 ≤ locks ∧ locks ≤ 4) (hp : PkOK p n) : ∃ t n', S33 k p n 2 locks = some ((Tr.flat t, ()), (p, n', ()), ()) ∧ PkOK p n' ∧ Pc locks t ∧ 1 ≤ t.len ∧ t.len ≤ 6 := by
 unfold S33
 obtain ⟨a, n1, e1, ha, h1⟩ := S6_eq k (m := 2) hp (by omega)
 rw [e1, Option.bind_some]
 simp only
 rw [w64 (by omega) (by omega)]
 obtain ⟨m, hm⟩ : ∃ m : Nat, a + 1 = (m : Int) := ⟨(a + 1).toNat, by omega⟩
 rw [hm]
 obtain ⟨t', n', h5, h6, h7, h8, h9⟩ := L33_3_eq hk (p := p) hl m k n1 .nil (by omega) (by omega) h1 (Pc_nil locks) (by simp only [Tr.len]; omega)
 simp only [Tr.len, Nat.zero_add] at h8 h9
 exact ⟨t', n', h5, h6, h7, by omega, by omega⟩
structure Mp (locks : Int) (t : Tr) : Prop where
 ok : Ok 0 [] false t
 free : semT locks t
 low : lowT t
theorem Mp_app {locks : Int} {t u : Tr} (h : Mp locks t) (hu : Mp locks u) : Mp locks (t.app u) := ⟨Ok_app h.ok hu.ok, semT_app h.free hu.free, low_app h.low hu.low⟩
theorem j15_16_eq {k : Nat} {p : List Int} {locks n : Int} {t u : Tr} {m : Nat} {g3 : List Int → Int → Int → List I4 → Int → Option ((List I4 × Unit) × (List Int × Int × Unit) × Unit)} (hu : u.len ≤ 900) (ht : t.len ≤ 22) (hm : m ≤ 900) (ht' : Mp locks t) (hu' : Mp locks u) :
  ∃ t', j15_16 k g3 p n locks t.flat ((m + 1 : Nat) : Int) u.flat = g3 p n locks (Tr.flat t') (m : Int) ∧ t'.len ≤ 22 ∧ Mp locks t' := by
 unfold j15_16
 have h1 := flat_len t
 have h2 := flat_len u
 rw [w64 (by omega) (by omega), w64 (by omega) (by omega), show ((m + 1 : Nat) : Int) - 1 = (m : Int) by omega]
 by_cases e : ((t.flat.length : Int) + (u.flat.length : Int)) < 23
 ·rw [bif_t e, ap_ok (by omega)]
  exact ⟨t.app u, by rw [flat_app], by rw [len_app]; omega, Mp_app ht' hu'⟩
 ·rw [bif_f e]; exact ⟨t, rfl, ht, ht'⟩
theorem L15_3_eq {k : Nat} (hk : 1000 ≤ k) {p : List Int} {locks : Int} (hl : 0 ≤ locks ∧ locks ≤ 4) : ∀ (m j : Nat) (n : Int) (t : Tr), m < j → m ≤ 100 → PkOK p n → Mp locks t → t.len ≤ 22 →
  ∃ t' n', L15_3 k j p n locks t.flat (m : Int) = some ((Tr.prog t', ()), (p, n', ()), ()) ∧ PkOK p n' ∧ Mp locks t' ∧ t'.len ≤ 22
 | 0, j, n, t, hj, _, hp, ht, htl => by
  obtain ⟨j', rfl⟩ : ∃ j', j = j' + 1 := ⟨j - 1, by omega⟩
  have hfl := flat_len t
  rw [L15_3_s, l15_3, bif_f (by omega), ap_ok (by simp only [List.length_cons, List.length_nil]; omega)]
  exact ⟨t, n, rfl, hp, ht, htl⟩
 | m + 1, j, n, t, hj, hm, hp, ht, htl => by
  obtain ⟨j', rfl⟩ : ∃ j', j = j' + 1 := ⟨j - 1, by omega⟩
  rw [L15_3_s, l15_3, bif_t (by omega)]
  have ih := L15_3_eq hk (p := p) hl m j'
  obtain ⟨a, n1, e1, ha, h1⟩ := S6_eq k (m := 5) hp (by omega)
  rw [e1, Option.bind_some]
  simp only
  cases h0 : a == 0 with
  | true =>
   obtain ⟨b, n2, e2, h2, hb, hb1, hb2⟩ := S33_eq hk hl h1
   rw [cond_true, e2, Option.bind_some]
   simp only
   obtain ⟨c, n3, e3, hc, h3⟩ := S6_eq k (m := 3) h2 (by omega)
   have hbl := flat_len b
   rw [e3, Option.bind_some, ap_ok (by simp only [List.length_cons, List.length_nil]; omega)]
   simp only
   rw [w64 (by omega) (by omega)]
   have hx : mayI (8, 0, (b.flat.length : Int), 1 + c) = true := by simp [mayI, witI]; omega
   have hwd : wd (8, 0, (b.flat.length : Int), 1 + c) = b.len := by simp [wd, hbl]
   obtain ⟨t', h5, h6, h7⟩ := j15_16_eq (k := k) (p := p) (locks := locks) (n := n3) (t := t) (u := .ar (8, 0, (b.flat.length : Int), 1 + c) b .nil) (m := m) (g3 := fun p2 p3 locks1 l_ i => L15_3 k j' p2 p3 locks1 l_ i) (by simp only [Tr.len]; omega) htl (by omega) ht ⟨⟨⟨hx, rfl, hwd⟩, fun _ => by omega, hb.ok _ _, trivial⟩, ⟨hb.free, trivial⟩, ⟨simple_low hb.simple, trivial⟩⟩
   obtain ⟨t2, n', h8, h9, h10, h11⟩ := ih n3 t' (by omega) (by omega) h3 h7 h6
   refine ⟨t2, n', ?_, h9, h10, h11⟩
   rw [← h8, ← h5]
   simp only [Tr.flat, List.append_nil, List.cons_append, List.nil_append]
  | false =>
   rw [cond_false]
   cases h0 : a == 1 with
   | true =>
    obtain ⟨b, n2, e2, h2, hb, hb1, hb2⟩ := S33_eq hk hl h1
    rw [cond_true, e2, Option.bind_some]
    simp only
    obtain ⟨c, n3, e3, hc, h3⟩ := S6_eq k (m := 3) h2 (by omega)
    have hbl := flat_len b
    rw [e3, Option.bind_some, ap_ok (by simp only [List.length_cons, List.length_nil]; omega)]
    simp only
    have hx : mayI (7, c, 0, (b.flat.length : Int)) = true := by simp [mayI, witI, memI]; omega
    have hwd : wd (7, c, 0, (b.flat.length : Int)) = b.len := by simp [wd, hbl]
    obtain ⟨t', h5, h6, h7⟩ := j15_16_eq (k := k) (p := p) (locks := locks) (n := n3) (t := t) (u := .ar (7, c, 0, (b.flat.length : Int)) b .nil) (m := m) (g3 := fun p2 p3 locks1 l_ i => L15_3 k j' p2 p3 locks1 l_ i) (by simp only [Tr.len]; omega) htl (by omega) ht ⟨⟨⟨hx, rfl, hwd⟩, fun _ => by omega, hb.ok _ _, trivial⟩, ⟨hb.free, trivial⟩, ⟨simple_low hb.simple, trivial⟩⟩
    obtain ⟨t2, n', h8, h9, h10, h11⟩ := ih n3 t' (by omega) (by omega) h3 h7 h6
    refine ⟨t2, n', ?_, h9, h10, h11⟩
    rw [← h8, ← h5]
    simp only [Tr.flat, List.append_nil, List.cons_append, List.nil_append]
   | false =>
    rw [cond_false]
    cases h0 : a == 2 with
    | true =>
     rw [cond_true]
     obtain ⟨t', h5, h6, h7⟩ := j15_16_eq (k := k) (p := p) (locks := locks) (n := n1) (t := t) (u := .one (11, 0, 0, 0) .nil) (m := m) (g3 := fun p2 p3 locks1 l_ i => L15_3 k j' p2 p3 locks1 l_ i) (by simp [Tr.len]) htl (by omega) ht ⟨⟨rfl, by simp [plain], fun _ => ⟨rfl, rfl⟩, trivial⟩, trivial, ⟨fun e => absurd e (by decide), trivial⟩⟩
     obtain ⟨t2, n', h8, h9, h10, h11⟩ := ih n1 t' (by omega) (by omega) h1 h7 h6
     exact ⟨t2, n', by rw [← h8, ← h5]; rfl, h9, h10, h11⟩
    | false =>
     obtain ⟨b, n2, e2, h2, hb, hb1, hb2⟩ := S33_eq hk hl h1
     rw [cond_false, e2, Option.bind_some]
     simp only
     obtain ⟨t', h5, h6, h7⟩ := j15_16_eq (k := k) (p := p) (locks := locks) (n := n2) (t := t) (u := b) (m := m) (g3 := fun p2 p3 locks1 l_ i => L15_3 k j' p2 p3 locks1 l_ i) (by omega) htl (by omega) ht ⟨hb.ok _ _, hb.free, simple_low hb.simple⟩
     obtain ⟨t2, n', h8, h9, h10, h11⟩ := ih n2 t' (by omega) (by omega) h2 h7 h6
     exact ⟨t2, n', by rw [← h8, ← h5], h9, h10, h11⟩
theorem S15_eq {k : Nat} (hk : 1000 ≤ k) {p : List Int} {n locks : Int} (hl : 0 ≤ locks ∧ locks ≤ 4) (hp : PkOK p n) : ∃ t n', S15 k p n locks = some ((Tr.prog t, ()), (p, n', ()), ()) ∧ PkOK p n' ∧ Mp locks t ∧ t.len ≤ 22 := by
 unfold S15
 obtain ⟨a, n1, e1, ha, h1⟩ := S6_eq k (m := 4) hp (by omega)
 rw [e1, Option.bind_some]
 simp only
 rw [w64 (by omega) (by omega)]
 obtain ⟨m, hm⟩ : ∃ m : Nat, a + 1 = (m : Int) := ⟨(a + 1).toNat, by omega⟩
 rw [hm]
 exact L15_3_eq hk (p := p) hl m k n1 .nil (by omega) (by omega) h1 ⟨trivial, trivial, trivial⟩ (by simp [Tr.len])
end Go.Proofs.YteflacbgobpmcaaGreat.Ab

/- Wild programs; what begins the laws; numbers out of bytes. -/
namespace Go.Proofs.YteflacbgobpmcaaGreat.Ab
open Go.RowKit Tr
set_option linter.unusedSimpArgs false
set_option linter.unusedVariables false
theorem wf_u8 {n : Int} (h : (Lit.int .u8 n).wf = true) : 0 ≤ n ∧ n ≤ 255 := by
 simp [Lit.wf, IntKind.min, IntKind.max, IntKind.signed, IntKind.bits] at h
 omega
theorem picks_ok {p : List Int} {e : TypeId} (h : Ty.fine (.sl e (.int .u8)) p) (hl : p.length ≤ 1000) : PkOK p 0 :=
 ⟨⟨hl, by omega, by omega⟩, fun x hx => wf_u8 (h.2 x hx)⟩
end Go.Proofs.YteflacbgobpmcaaGreat.Ab

/- The laws of layer 6 that are of lists alone. -/
namespace Go.Proofs.YteflacbgobpmcaaGreat.Ab
open Go.RowKit Tr
set_option linter.unusedSimpArgs false
set_option linter.unusedVariables false
end Go.Proofs.YteflacbgobpmcaaGreat.Ab

/- What pairs are: each lock has its own, one in the other or apart. -/
namespace Go.Proofs.YteflacbgobpmcaaGreat.Ab
open Go.RowKit Tr
set_option linter.unusedSimpArgs false
set_option linter.unusedVariables false
def isOp (l : List I4) (c : Int) (n : Nat) : Prop := (l.getD n i0).1 = c
abbrev semOf (l : List I4) (n : Nat) : Int := (l.getD n i0).2.1
def cntOp (l : List I4) (c : Int) : Nat → Nat
 | 0 => 0
 | n + 1 => cntOp l c n + (if (l.getD n i0).1 = c then 1 else 0)
structure PrI (l : List I4) (i : Nat) (out open_ : List Int) : Prop where
 len : out.length = l.length
 sorted : open_.Pairwise (· < ·)
 small : ∀ k ∈ open_, 0 ≤ k ∧ k < (i : Int)
 lock : ∀ k : Nat, (k : Int) ∈ open_ → isOp l 9 k
 closed : ∀ k, k < i → isOp l 9 k → (k : Int) ∉ open_ → ∃ u : Nat, out.getD k 0 = (u : Int) ∧ k < u ∧ u < i ∧ isOp l 10 u ∧ semOf l u = semOf l k
 dist : ∀ k j, k < j → j < i → isOp l 9 k → isOp l 9 j → (k : Int) ∈ open_ → semOf l k ≠ semOf l j
 nest : ∀ k j, k < j → j < i → isOp l 9 k → isOp l 9 j → (k : Int) ∉ open_ → (j : Int) < out.getD k 0 → (j : Int) ∉ open_ ∧ out.getD j 0 < out.getD k 0 ∧ semOf l k ≠ semOf l j
 cnt : cntOp l 9 i = cntOp l 10 i + open_.length
theorem prI_step {l : List I4} {i : Nat} {s s' : List Int × List Int} (hi : i < l.length) (h : PrI l i s.1 s.2) (hs : prStep l i s = some s') : PrI l (i + 1) s'.1 s'.2 := by
 unfold prStep at hs
 have lt1 : ∀ k, k < i + 1 → k ≠ i → k < i := fun k h1 h2 => by omega
 have notin : ((i : Nat) : Int) ∉ s.2 := fun h1 => by have := h.small _ h1; omega
 split at hs
 ·rename_i h9
  split at hs
  ·cases hs
  ·rename_i hn
   injection hs with hs; subst hs
   have hmem : ∀ k : Nat, ((k : Int) ∈ s.2 ++ [(i : Int)]) ↔ ((k : Int) ∈ s.2 ∨ k = i) := fun k => by
    rw [List.mem_append, List.mem_singleton]
    exact ⟨fun h => h.imp id (fun h => by omega), fun h => h.imp id (fun h => by omega)⟩
   refine ⟨h.len, ?_, ?_, ?_, ?_, ?_, ?_, ?_⟩
   ·rw [List.pairwise_append]
    exact ⟨h.sorted, List.pairwise_singleton _ _, fun a ha b hb => by rw [List.mem_singleton.1 hb]; exact (h.small a ha).2⟩
   ·intro k hk
    rcases List.mem_append.1 hk with hk | hk
    ·have := h.small k hk; omega
    ·rw [List.mem_singleton.1 hk]; omega
   ·intro k hk
    rcases (hmem k).1 hk with hk | rfl
    ·exact h.lock k hk
    ·exact h9
   ·intro k hk1 hk2 hk3
    have hk3 := fun e => hk3 ((hmem k).2 e)
    obtain ⟨u, h1, h2, h3, h4⟩ := h.closed k (lt1 k hk1 (fun e => hk3 (.inr e))) hk2 (fun e => hk3 (.inl e))
    exact ⟨u, h1, h2, by omega, h4⟩
   ·intro k j hkj hj h1 h2 h3
    by_cases e : j = i
    ·subst e
     rcases (hmem k).1 h3 with h3 | e
     ·intro e
      apply hn; right
      unfold sameS
      rw [List.any_eq_true]
      exact ⟨(k : Int), h3, by rw [rd_nat, rd_nat]; exact beq_iff_eq.2 e⟩
     ·omega
    ·rcases (hmem k).1 h3 with h3 | e2
     ·exact h.dist k j hkj (lt1 j hj e) h1 h2 h3
     ·omega
   ·intro k j hkj hj h1 h2 h3 h4
    have h3' := fun e => h3 ((hmem k).2 e)
    obtain ⟨u, g1, g2, g3, _⟩ := h.closed k (by omega) h1 (fun e => h3' (.inl e))
    have h4' : (j : Int) < s.1.getD k 0 := h4
    by_cases e : j = i
    ·subst e; omega
    ·obtain ⟨q1, q2⟩ := h.nest k j hkj (lt1 j hj e) h1 h2 (fun e => h3' (.inl e)) h4
     exact ⟨fun h5 => ((hmem j).1 h5).elim q1 e, q2⟩
   ·rw [cntOp, cntOp, if_pos h9, if_neg (by rw [h9]; decide), h.cnt]
    simp only [List.length_append, List.length_cons, List.length_nil]; omega
 ·rename_i h9
  split at hs
  ·rename_i h10
   split at hs
   ·cases hs
   ·rename_i x hx
    split at hs
    ·cases hs
    ·rename_i hn
     injection hs with hs; subst hs
     obtain ⟨r, hr⟩ : ∃ r, s.2 = r ++ [x] := by
      rcases List.eq_nil_or_concat s.2 with e | ⟨r, y, e⟩
      ·rw [e] at hx; cases hx
      ·rw [List.concat_eq_append] at e
       rw [e] at hx
       simp at hx
       subst hx
       exact ⟨r, e⟩
     have hxm := h.small x (by rw [hr]; simp)
     obtain ⟨n, rfl⟩ : ∃ n : Nat, x = (n : Int) := ⟨x.toNat, by omega⟩
     have hsort := h.sorted
     rw [hr, List.pairwise_append] at hsort
     have hdl : s.2.dropLast = r := by rw [hr]; simp
     have hmem : ∀ k : Nat, (k : Int) ∈ s.2 ↔ ((k : Int) ∈ r ∨ k = n) := fun k => by
      rw [hr, List.mem_append, List.mem_singleton]
      exact ⟨fun h => h.imp id (fun h => by omega), fun h => h.imp id (fun h => by omega)⟩
     have hnr : (n : Int) ∉ r := fun e => by have := hsort.2.2 _ e (n : Int) (by simp); omega
     have hge : ∀ k : Nat, (k : Int) ∈ r → k < n := fun k e => by have := hsort.2.2 _ e (n : Int) (by simp); omega
     have hln := h.lock n ((hmem n).2 (.inr rfl))
     have hA : semOf l n = semOf l i := by
      by_cases e : semOf l n = semOf l i
      ·exact e
      ·exact absurd (.inl (by rw [rd_nat]; exact e)) hn
     have hget : ∀ k : Nat, (s.1.set n (i : Int)).getD k 0 = if n = k ∧ k < s.1.length then (i : Int) else s.1.getD k 0 := fun k => set_get
     have hlen := h.len
     have hnl : n < s.1.length := by omega
     simp only
     rw [hdl, upd_nat]
     refine ⟨by rw [List.length_set]; exact h.len, hsort.1, fun k hk => by have := h.small k (by rw [hr]; simp [hk]); omega, fun k hk => h.lock k ((hmem k).2 (.inl hk)), ?_, ?_, ?_, ?_⟩
     ·intro k hk1 hk2 hk3
      rw [hget]
      by_cases e : n = k
      ·subst e
       rw [if_pos ⟨rfl, hnl⟩]
       exact ⟨i, rfl, by omega, by omega, h10, hA.symm⟩
      ·rw [if_neg (fun q => e q.1)]
       have : k ≠ i := fun e => by subst e; exact h9 hk2
       obtain ⟨u, h1, h2, h3, h4⟩ := h.closed k (by omega) hk2 (fun q => ((hmem k).1 q).elim hk3 (fun q => e q.symm))
       exact ⟨u, h1, h2, by omega, h4⟩
     ·intro k j hkj hj h1 h2 h3
      have : j ≠ i := fun e => by subst e; exact h9 h2
      exact h.dist k j hkj (by omega) h1 h2 ((hmem k).2 (.inl h3))
     ·intro k j hkj hj h1 h2 h3 h4
      have hji : j ≠ i := fun e => by subst e; exact h9 h2
      rw [hget k] at h4
      rw [hget k, hget j]
      by_cases e : n = k
      ·subst e
       rw [if_pos ⟨rfl, hnl⟩] at h4
       rw [if_pos (show n = n ∧ n < s.1.length from ⟨rfl, hnl⟩)]
       have hjr : (j : Int) ∉ r := fun q => by have := hge j q; omega
       have hjo : (j : Int) ∉ s.2 := fun q => ((hmem j).1 q).elim hjr (fun q => by omega)
       obtain ⟨u, g1, g2, g3, _⟩ := h.closed j (by omega) h2 hjo
       rw [if_neg (show ¬ (n = j ∧ j < s.1.length) by omega)]
       exact ⟨hjr, by omega, h.dist n j hkj (by omega) h1 h2 ((hmem n).2 (.inr rfl))⟩
      ·rw [if_neg (fun q => e q.1)] at h4
       rw [if_neg (show ¬ (n = k ∧ k < s.1.length) from fun q => e q.1)]
       have hko : (k : Int) ∉ s.2 := fun q => ((hmem k).1 q).elim h3 (fun q => e q.symm)
       obtain ⟨q1, q2, q3⟩ := h.nest k j hkj (by omega) h1 h2 hko h4
       have hjn : n ≠ j := fun e => q1 (e ▸ (hmem n).2 (.inr rfl))
       rw [if_neg (show ¬ (n = j ∧ j < s.1.length) from fun q => hjn q.1)]
       exact ⟨fun q => q1 ((hmem j).2 (.inl q)), q2, q3⟩
     ·rw [cntOp, cntOp, if_pos h10, if_neg h9, h.cnt, hr]
      simp only [List.length_append, List.length_cons, List.length_nil]; omega
  ·rename_i h10
   injection hs with hs; subst hs
   have ne : ∀ j, isOp l 9 j → j ≠ i := fun j q e => by subst e; exact h9 q
   refine ⟨h.len, h.sorted, fun k hk => by have := h.small k hk; omega, h.lock, ?_, ?_, ?_, ?_⟩
   ·intro k hk1 hk2 hk3
    have := ne k hk2
    obtain ⟨u, h1, h2, h3, h4⟩ := h.closed k (by omega) hk2 hk3
    exact ⟨u, h1, h2, by omega, h4⟩
   ·intro k j hkj hj h1 h2 h3
    have := ne j h2
    exact h.dist k j hkj (by omega) h1 h2 h3
   ·intro k j hkj hj h1 h2 h3 h4
    have := ne j h2
    exact h.nest k j hkj (by omega) h1 h2 h3 h4
   ·rw [cntOp, cntOp, if_neg h10, if_neg h9, h.cnt]; omega
theorem prI_go {l : List I4} : ∀ (m i : Nat) (s s' : List Int × List Int), i + m = l.length → PrI l i s.1 s.2 → prGo l m i s = some s' → PrI l l.length s'.1 s'.2
 | 0, i, s, s', hm, h, hg => by
  injection hg with hg; subst hg
  have : i = l.length := by omega
  subst this; exact h
 | m + 1, i, s, s', hm, h, hg => by
  rw [prGo, Option.bind_eq_some_iff] at hg
  obtain ⟨t, h1, h2⟩ := hg
  exact prI_go m (i + 1) t s' (by omega) (prI_step (by omega) h h1) h2
theorem prI_prs {l : List I4} {ps : List Int} (h : prs l = some ps) : PrI l l.length ps [] :=
 prI_go _ _ _ _ (by omega) ⟨by simp, List.Pairwise.nil, (fun _ h => by cases h), (fun _ h => by cases h), fun _ h => by omega, fun _ _ _ h => by omega, fun _ _ _ h => by omega, rfl⟩ (prs_go h)
end Go.Proofs.YteflacbgobpmcaaGreat.Ab

/- Numbers that stop at their ends, of numbers that are not below nought. -/
namespace Go.Proofs.YteflacbgobpmcaaGreat.Ab
open Go.RowKit
set_option linter.unusedSimpArgs false
set_option linter.unusedVariables false
theorem u64 {n : Int} (h1 : 0 ≤ n) (h2 : n < 18446744073709551616) : IntKind.u64.wrap n = n := by
 unfold IntKind.wrap
 have e1 : (2 ^ IntKind.u64.bits : Int) = 18446744073709551616 := by decide
 simp only [e1, IntKind.signed, Bool.false_and, Bool.false_eq_true, if_false]
 omega
theorem u64_emod (n : Int) : IntKind.u64.wrap n = n % 18446744073709551616 := by
 unfold IntKind.wrap
 have e1 : (2 ^ IntKind.u64.bits : Int) = 18446744073709551616 := by decide
 simp only [e1, IntKind.signed, Bool.false_and, Bool.false_eq_true, if_false]
theorem u32_emod (n : Int) : IntKind.u32.wrap n = n % 4294967296 := by
 unfold IntKind.wrap
 have e1 : (2 ^ IntKind.u32.bits : Int) = 4294967296 := by decide
 simp only [e1, IntKind.signed, Bool.false_and, Bool.false_eq_true, if_false]
theorem i64_bv (x : BitVec 64) : IntKind.i64.wrap (x.toNat : Int) = x.toInt := by
 have hx := x.isLt
 unfold IntKind.wrap
 have e1 : (2 ^ IntKind.i64.bits : Int) = 18446744073709551616 := by decide
 have e2 : (2 ^ (IntKind.i64.bits - 1) : Int) = 9223372036854775808 := by decide
 simp only [e1, e2, IntKind.signed, Bool.true_and, decide_eq_true_eq, BitVec.toInt_eq_toNat_cond]
 have : (2 : Nat) ^ 64 = 18446744073709551616 := by decide
 rw [this] at hx ⊢
 split <;> split <;> omega
theorem bv_i64 (x : BitVec 64) : BitVec.ofInt 64 x.toInt = x := BitVec.ofInt_toInt
theorem ixor_i64 (a b : Int) : ixor .i64 a b = (BitVec.ofInt 64 a ^^^ BitVec.ofInt 64 b).toInt := i64_bv _
theorem iand_i64 (a b : Int) : iand .i64 a b = (BitVec.ofInt 64 a &&& BitVec.ofInt 64 b).toInt := i64_bv _
theorem msb_nonneg {a : Int} (h1 : 0 ≤ a) (h2 : a ≤ 9223372036854775807) : (BitVec.ofInt 64 a).msb = false := by
 have : (BitVec.ofInt 64 a).toInt = a := by rw [BitVec.toInt_ofInt]; exact Int.bmod_eq_of_le (by omega) (by omega)
 rw [BitVec.msb_eq_toInt, this]; exact decide_eq_false (by omega)
theorem msb_neg {a : Int} (h1 : -9223372036854775808 ≤ a) (h2 : a < 0) : (BitVec.ofInt 64 a).msb = true := by
 have : (BitVec.ofInt 64 a).toInt = a := by rw [BitVec.toInt_ofInt]; exact Int.bmod_eq_of_le (by omega) (by omega)
 rw [BitVec.msb_eq_toInt, this]; exact decide_eq_true (by omega)
theorem sign_add {a b s : Int} (ha : 0 ≤ a ∧ a ≤ 9223372036854775807) (hb : 0 ≤ b ∧ b ≤ 9223372036854775807) (hs : -9223372036854775808 ≤ s ∧ s ≤ 9223372036854775807) :
  decide (iand .i64 (ixor .i64 a s) (ixor .i64 b s) < 0) = decide (s < 0) := by
 rw [iand_i64, ixor_i64, ixor_i64, bv_i64, bv_i64, ← BitVec.msb_eq_toInt, BitVec.msb_and, BitVec.msb_xor, BitVec.msb_xor, msb_nonneg ha.1 ha.2, msb_nonneg hb.1 hb.2]
 by_cases h : s < 0
 ·rw [msb_neg hs.1 h, decide_eq_true h]; rfl
 ·rw [msb_nonneg (by omega) hs.2, decide_eq_false h]; rfl
def capI (n : Int) : Int × Bool := if n ≤ 9223372036854775807 then (n, true) else (9223372036854775807, false)
theorem S52_eq (k : Nat) {a b : Int} (ha : 0 ≤ a ∧ a ≤ 9223372036854775807) (hb : 0 ≤ b ∧ b ≤ 9223372036854775807) : S52 k a b = some (((capI (a + b)).1, (capI (a + b)).2, ()), ()) := by
 unfold S52
 rw [u64 ha.1 (by omega), u64 hb.1 (by omega), u64 (n := a + b) (by omega) (by omega)]
 have hs : IntKind.i64.wrap (a + b) = if a + b ≤ 9223372036854775807 then a + b else a + b - 18446744073709551616 := by
  unfold IntKind.wrap
  have e1 : (2 ^ IntKind.i64.bits : Int) = 18446744073709551616 := by decide
  have e2 : (2 ^ (IntKind.i64.bits - 1) : Int) = 9223372036854775808 := by decide
  simp only [e1, e2, IntKind.signed, Bool.true_and, decide_eq_true_eq]
  split <;> split <;> omega
 rw [sign_add ha hb (by rw [hs]; split <;> omega), hs]
 unfold capI S83
 by_cases h : a + b ≤ 9223372036854775807
 ·rw [if_pos h, if_pos h, bif_f (by omega)]
 ·rw [if_neg h, if_neg h, bif_t (by omega), bif_f (by omega)]; rfl
theorem S52_ok (k : Nat) {a b : Int} (ha : 0 ≤ a) (hb : 0 ≤ b) (h : a + b ≤ 9223372036854775807) : S52 k a b = some ((a + b, true, ()), ()) := by
 rw [S52_eq k ⟨ha, by omega⟩ ⟨hb, by omega⟩]; unfold capI; rw [if_pos h]
theorem ishr_32 {a : Int} : ishr .u64 a 32 = a / 4294967296 := by
 unfold ishr
 show a.fdiv (2 ^ 32) = _
 rw [show ((2 : Int) ^ 32) = 4294967296 by decide, Int.fdiv_eq_ediv_of_nonneg _ (by omega)]
theorem ishl_32 {a : Int} (h1 : 0 ≤ a) (h2 : a < 4294967296) : ishl .u64 a 32 = a * 4294967296 := by
 unfold ishl
 show IntKind.u64.wrap (a * 2 ^ 32) = _
 rw [show ((2 : Int) ^ 32) = 4294967296 by decide, u64 (by omega) (by omega)]
theorem ior_r {a : Int} (h1 : 0 ≤ a) (h2 : a < 18446744073709551616) : ior .u64 a 0 = a := by
 unfold ior
 show IntKind.u64.wrap (((BitVec.ofInt 64 a ||| BitVec.ofInt 64 0).toNat : Nat) : Int) = a
 rw [show BitVec.ofInt 64 0 = 0#64 from rfl, BitVec.or_zero, BitVec.toNat_ofInt, u64 (by omega) (by omega)]
 omega
theorem ior_l {a : Int} (h1 : 0 ≤ a) (h2 : a < 18446744073709551616) : ior .u64 0 a = a := by
 unfold ior
 show IntKind.u64.wrap (((BitVec.ofInt 64 0 ||| BitVec.ofInt 64 a).toNat : Nat) : Int) = a
 rw [show BitVec.ofInt 64 0 = 0#64 from rfl, BitVec.zero_or, BitVec.toNat_ofInt, u64 (by omega) (by omega)]
 omega
theorem S81_eq (k : Nat) {a b : Int} (ha : 0 ≤ a ∧ a ≤ 9223372036854775807) (hb : 0 ≤ b ∧ b ≤ 9223372036854775807) :
  ∃ p, S81 k a b = some ((p, decide (a * b < 18446744073709551616), ()), ()) ∧ (a * b < 18446744073709551616 → p = a * b) := by
 unfold S81
 simp only [ishr_32, u32_emod]
 have A1 : a = a / 4294967296 * 4294967296 + a % 4294967296 := by omega
 have B1 : b = b / 4294967296 * 4294967296 + b % 4294967296 := by omega
 have ah0 : 0 ≤ a / 4294967296 ∧ a / 4294967296 < 2147483648 := by omega
 have bh0 : 0 ≤ b / 4294967296 ∧ b / 4294967296 < 2147483648 := by omega
 have al0 : 0 ≤ a % 4294967296 ∧ a % 4294967296 < 4294967296 := by omega
 have bl0 : 0 ≤ b % 4294967296 ∧ b % 4294967296 < 4294967296 := by omega
 generalize a / 4294967296 = x at *
 generalize b / 4294967296 = y at *
 generalize a % 4294967296 = u at *
 generalize b % 4294967296 = v at *
 have hab : a * b = x * y * 18446744073709551616 + (x * v + u * y) * 4294967296 + u * v := by
  rw [A1, B1]; grind
 have huv : 0 ≤ u * v ∧ u * v < 18446744073709551616 := by
  constructor
  ·exact Int.mul_nonneg al0.1 bl0.1
  ·have : u * v ≤ 4294967295 * 4294967295 := Int.mul_le_mul (by omega) (by omega) bl0.1 (by omega)
   omega
 have hxv : 0 ≤ x * v ∧ x * v < 9223372036854775808 := by
  constructor
  ·exact Int.mul_nonneg ah0.1 bl0.1
  ·have : x * v ≤ 2147483647 * 4294967295 := Int.mul_le_mul (by omega) (by omega) bl0.1 (by omega)
   omega
 have huy : 0 ≤ u * y ∧ u * y < 9223372036854775808 := by
  constructor
  ·exact Int.mul_nonneg al0.1 bh0.1
  ·have : u * y ≤ 4294967295 * 2147483647 := Int.mul_le_mul (by omega) (by omega) bh0.1 (by omega)
   omega
 have hxy : 0 ≤ x * y := Int.mul_nonneg ah0.1 bh0.1
 rw [u64 (n := u) (by omega) (by omega), u64 (n := v) (by omega) (by omega), u64 (n := x * v) (by omega) (by omega), u64 (n := u * y) (by omega) (by omega), u64 (n := u * v) (by omega) (by omega)]
 have mid : x = 0 ∨ y = 0 → ior .u64 (x * v) (u * y) = x * v + u * y := by
  rintro (rfl | rfl)
  ·rw [Int.zero_mul, ior_l (by omega) (by omega)]; omega
  ·rw [Int.mul_zero, ior_r (by omega) (by omega)]; omega
 have tail : x = 0 ∨ y = 0 → ∃ p, (bif decide (ior .u64 (x * v) (u * y) / 4294967296 > 0) then some ((0, false, ()), ()) else
   some ((IntKind.u64.wrap (u * v + ishl .u64 (ior .u64 (x * v) (u * y)) 32), decide (IntKind.u64.wrap (u * v + ishl .u64 (ior .u64 (x * v) (u * y)) 32) ≥ u * v), ()), ()) : Option ((Int × Bool × Unit) × Unit)) = some ((p, decide (a * b < 18446744073709551616), ()), ()) ∧ (a * b < 18446744073709551616 → p = a * b) := by
  intro h0
  have hxy0 : x * y = 0 := by rcases h0 with rfl | rfl <;> simp
  rw [hxy0] at hab
  rw [mid h0]
  have hm0 : 0 ≤ x * v + u * y := by omega
  clear mid
  generalize x * v + u * y = m at hab hm0 ⊢
  by_cases h : m / 4294967296 > 0
  ·rw [bif_t h]
   exact ⟨0, by rw [decide_eq_false (by omega)], fun h2 => by omega⟩
  ·rw [bif_f h, ishl_32 hm0 (by omega)]
   refine ⟨_, by
    rw [show decide (IntKind.u64.wrap (u * v + m * 4294967296) ≥ u * v) = decide (a * b < 18446744073709551616) from ?_]
    rw [u64_emod]
    by_cases h2 : a * b < 18446744073709551616
    ·rw [decide_eq_true h2]; exact decide_eq_true (by omega)
    ·rw [decide_eq_false h2]; exact decide_eq_false (by omega), fun h2 => ?_⟩
   rw [u64_emod]; omega
 by_cases h1 : x > 0
 ·rw [bif_t h1]
  by_cases h2 : y > 0
  ·rw [bif_t h2]
   have : 1 ≤ x * y := by
    have : 1 * 1 ≤ x * y := Int.mul_le_mul (by omega) (by omega) (by omega) (by omega)
    omega
   exact ⟨0, by rw [decide_eq_false (by omega)], fun h => by omega⟩
  ·rw [bif_f h2]; exact tail (.inr (by omega))
 ·rw [bif_f h1]; exact tail (.inl (by omega))
theorem S82_eq (k : Nat) {a : Int} (ha : 0 ≤ a ∧ a ≤ 9223372036854775807) : S82 k a = some ((a, ()), ()) := by
 unfold S82
 rw [bif_f (by omega), u64 ha.1 (by omega)]
theorem S51_eq (k : Nat) {a b : Int} (ha : 0 ≤ a ∧ a ≤ 9223372036854775807) (hb : 0 ≤ b ∧ b ≤ 9223372036854775807) : S51 k a b = some (((capI (a * b)).1, (capI (a * b)).2, ()), ()) := by
 unfold S51
 rw [decide_eq_false (p := a < 0) (by omega), decide_eq_false (p := b < 0) (by omega)]
 simp only [beq_self_eq_true, Bool.not_true, cond_false]
 unfold j51_5
 obtain ⟨p, h1, h2⟩ := S81_eq k ha hb
 have hab : 0 ≤ a * b := Int.mul_nonneg ha.1 hb.1
 rw [S82_eq k ha, S82_eq k hb]
 simp only [Option.bind_some]
 rw [h1, Option.bind_some]
 unfold capI S83
 by_cases h : a * b < 18446744073709551616
 ·rw [h2 h, decide_eq_true h]
  simp only [Bool.not_true, cond_false]
  by_cases h3 : a * b ≤ 9223372036854775807
  ·rw [bif_f (by omega), if_pos h3, w64 (by omega) h3]
  ·rw [bif_t (by omega), if_neg h3]; rfl
 ·rw [decide_eq_false h, if_neg (by omega)]; rfl
theorem S51_ok (k : Nat) {a b : Int} (ha : 0 ≤ a ∧ a ≤ 9223372036854775807) (hb : 0 ≤ b ∧ b ≤ 9223372036854775807) (h : a * b ≤ 9223372036854775807) : S51 k a b = some ((a * b, true, ()), ()) := by
 rw [S51_eq k ha hb]; unfold capI; rw [if_pos h]
end Go.Proofs.YteflacbgobpmcaaGreat.Ab

/- How long programs are: both answers are one. -/
namespace Go.Proofs.YteflacbgobpmcaaGreat.Ab
open Go.RowKit Tr
set_option linter.unusedSimpArgs false
set_option linter.unusedVariables false
def tmA (l : List I4) (j : Int) : List Ar → Int → Int
 | [], acc => acc
 | p :: r, acc => tmA l j r (bif p.2.2.2 && hasA p j then acc * (rd l p.2.2.1 i0).2.2.2 else acc)
theorem tmA_app (l : List I4) (j : Int) : ∀ (a b : List Ar) (acc : Int), tmA l j (a ++ b) acc = tmA l j b (tmA l j a acc)
 | [], _, _ => rfl
 | p :: a, b, acc => by rw [List.cons_append, tmA, tmA, tmA_app l j a b]
theorem tmA_none (l : List I4) (j : Int) : ∀ (a : List Ar) (acc : Int), (∀ p ∈ a, hasA p j = false) → tmA l j a acc = acc
 | [], _, _ => rfl
 | p :: a, acc, h => by rw [tmA, h p List.mem_cons_self, Bool.and_false, cond_false, tmA_none l j a acc (fun q hq => h q (List.mem_cons_of_mem _ hq))]
theorem tmA_bound (l : List I4) (j : Int) : ∀ (a : List Ar) (acc : Int), 1 ≤ acc → (∀ p ∈ a, p.2.2.2 = true → 1 ≤ (rd l p.2.2.1 i0).2.2.2 ∧ (rd l p.2.2.1 i0).2.2.2 ≤ 20) → 1 ≤ tmA l j a acc ∧ tmA l j a acc ≤ acc * 20 ^ cB j a
 | [], acc, h, _ => by rw [tmA]; simp [cB]; exact h
 | p :: a, acc, h, hb => by
  rw [tmA, cB, List.countP_cons, ← cB]
  have ih := fun acc h => tmA_bound l j a acc h (fun q hq => hb q (List.mem_cons_of_mem _ hq))
  cases e : (p.2.2.2 && hasA p j) with
  | false => simp only [cond_false, Bool.false_eq_true, if_false, Nat.add_zero]; exact ih acc h
  | true =>
   rw [Bool.and_eq_true] at e
   have h1 := hb p List.mem_cons_self e.1
   simp only [cond_true, if_true]
   have h2 : 1 * 1 ≤ acc * (rd l p.2.2.1 i0).2.2.2 := Int.mul_le_mul h h1.1 (by omega) (by omega)
   obtain ⟨i1, i2⟩ := ih (acc * (rd l p.2.2.1 i0).2.2.2) (by omega)
   refine ⟨i1, Int.le_trans i2 ?_⟩
   rw [Int.pow_succ, Int.mul_comm (20 ^ cB j a) 20, ← Int.mul_assoc]
   refine Int.mul_le_mul_of_nonneg_right ?_ (Int.pow_nonneg (by omega))
   exact Int.mul_le_mul_of_nonneg_left h1.2 (by omega)
def tms (l : List I4) : List Int := (List.range l.length).map (fun (j : Nat) => tmA l (j : Int) (pcs 0 l) 1)
theorem tms_len (l : List I4) : (tms l).length = l.length := by simp [tms]
theorem tms_get {l : List I4} {j : Nat} (h : j < l.length) : (tms l).getD j 0 = tmA l (j : Int) (pcs 0 l) 1 := by
 rw [getD_in (by rw [tms_len]; exact h)]; simp [tms]
theorem pcs_reps {l : List I4} {ps : List Int} (g : GoodA l ps) : ∀ p ∈ pcs 0 l, p.2.2.2 = true → 1 ≤ (rd l p.2.2.1 i0).2.2.2 ∧ (rd l p.2.2.1 i0).2.2.2 ≤ 20 := by
 intro p hp hb
 have := g.len2
 obtain ⟨n, h1, h2, rfl⟩ := (pcs_mem_iff l 0 p g.may (by omega)).1 hp
 have h3 := may8 (g.may _ (getD_mem (z := i0) h1)) (eq_of_beq hb)
 have : rd l (arOf (0 + n) (l.getD n i0)).2.2.1 i0 = l.getD n i0 := by rw [Nat.zero_add]; exact rd_nat
 rw [this]; exact h3.2.2
theorem tms_bound {l : List I4} {ps : List Int} (g : GoodA l ps) {j : Nat} (h : j < l.length) : 1 ≤ (tms l).getD j 0 ∧ (tms l).getD j 0 ≤ 400 := by
 rw [tms_get h]
 have h1 := tmA_bound l (j : Int) (pcs 0 l) 1 (by omega) (pcs_reps g)
 have h2 := g.bodies j h
 refine ⟨h1.1, Int.le_trans h1.2 ?_⟩
 have : cB (j : Int) (pcs 0 l) = 0 ∨ cB (j : Int) (pcs 0 l) = 1 ∨ cB (j : Int) (pcs 0 l) = 2 := by omega
 rcases this with e | e | e <;> rw [e] <;> decide
/-! ### the document's -/
theorem L75_8_eq {k : Nat} {g4 : List I4 → List Int → List Ar → Int → Option ((List Int × Unit) × Unit)} {l : List I4} {ps : List Int} (g : GoodA l ps) {i : Nat} (hi : i < l.length) : ∀ (m n j : Nat) (out : List Int), n + m = (pcs 0 l).length → m < j → out.length = l.length → 1 ≤ out.getD i 0 → out.getD i 0 * 20 ^ cB i ((pcs 0 l).drop n) ≤ 400 →
  L75_8 k g4 j l out (pcs 0 l) (i : Int) n = g4 l (out.set i (tmA l i ((pcs 0 l).drop n) (out.getD i 0))) (pcs 0 l) ((i + 1 : Nat) : Int)
 | 0, n, j, out, h, hj, ho, h1, h2 => by
  obtain ⟨j', rfl⟩ : ∃ j', j = j' + 1 := ⟨j - 1, by omega⟩
  have := g.len2
  rw [L75_8_s, l75_8, bif_f (by omega), drop_nil (by omega), tmA, w64_nat (by omega)]
  have : out.set i (out.getD i 0) = out := by rw [getD_in (by omega)]; simp
  rw [this]
 | m + 1, n, j, out, h, hj, ho, h1, h2 => by
  obtain ⟨j', rfl⟩ : ∃ j', j = j' + 1 := ⟨j - 1, by omega⟩
  have hl2 := g.len2
  have hpl := pcs_len l 0
  have ih := L75_8_eq (k := k) (g4 := g4) g hi m (n + 1) j'
  have hn : n < (pcs 0 l).length := by omega
  have hp := getD_mem (z := a0) hn
  have hsh := pcs_shape g.may (by omega) hp
  have hrp := pcs_reps g _ hp
  rw [drop_cons a0 hn] at h2 ⊢
  rw [L75_8_s, l75_8, bif_t (by omega), ix_nat hn, rd_nat, w64_nat (by omega), tmA]
  generalize (pcs 0 l).getD n a0 = p at hsh hrp h2 ⊢
  rw [cB, List.countP_cons, ← cB] at h2
  cases hb : p.2.2.2 with
  | false =>
   rw [hb] at h2
   simp only [Bool.false_and, Bool.false_eq_true, if_false, Nat.add_zero] at h2
   exact ih out (by omega) (by omega) ho h1 h2
  | true =>
   rw [cond_true, ix_nat hn, S122_eq, Option.bind_some, Bool.true_and]
   rw [hb, Bool.true_and] at h2
   cases hh : hasA p i with
   | false =>
    rw [hh] at h2
    simp only [Bool.false_eq_true, if_false, Nat.add_zero] at h2
    exact ih out (by omega) (by omega) ho h1 h2
   | true =>
    rw [hh] at h2
    simp only [if_true] at h2
    have hr := hrp hb
    simp only [cond_true]
    rw [ix_nat (by omega), ix_nat hn, ix_ok (by omega) (by omega), ix_nat (by omega), rd_nat, upd_nat]
    have hset : (out.set i (out.getD i 0 * (rd l p.2.2.1 i0).2.2.2)).getD i 0 = out.getD i 0 * (rd l p.2.2.1 i0).2.2.2 := by rw [set_get, if_pos ⟨rfl, by omega⟩]
    have hge : 1 * 1 ≤ out.getD i 0 * (rd l p.2.2.1 i0).2.2.2 := Int.mul_le_mul h1 hr.1 (by omega) (by omega)
    have hle : out.getD i 0 * (rd l p.2.2.1 i0).2.2.2 * 20 ^ cB i ((pcs 0 l).drop (n + 1)) ≤ 400 := by
     refine Int.le_trans ?_ h2
     rw [Int.pow_succ, Int.mul_comm (20 ^ cB (i : Int) ((pcs 0 l).drop (n + 1))) 20, ← Int.mul_assoc]
     refine Int.mul_le_mul_of_nonneg_right ?_ (Int.pow_nonneg (by omega))
     exact Int.mul_le_mul_of_nonneg_left hr.2 (by omega)
    have hsmall : out.getD i 0 * (rd l p.2.2.1 i0).2.2.2 ≤ 400 := by
     refine Int.le_trans ?_ hle
     have : (1 : Int) ≤ 20 ^ cB (i : Int) ((pcs 0 l).drop (n + 1)) := (Int.pow_pos (by omega) : (0 : Int) < 20 ^ cB (i : Int) ((pcs 0 l).drop (n + 1)))
     have := Int.mul_le_mul_of_nonneg_left this (show 0 ≤ out.getD i 0 * (rd l p.2.2.1 i0).2.2.2 by omega)
     omega
    rw [w64 (n := out.getD i 0 * (rd l p.2.2.1 i0).2.2.2) (by omega) (by omega)]
    have := ih (out.set i (out.getD i 0 * (rd l p.2.2.1 i0).2.2.2)) (by omega) (by omega) (by rw [List.length_set]; exact ho) (by rw [hset]; omega) (by rw [hset]; exact hle)
    rw [hset, List.set_set] at this
    exact this
theorem S75_eq {k : Nat} (hk : 1000 ≤ k) {l : List I4} {ps : List Int} (g : GoodA l ps) : S75 k l = some ((tms l, ()), ()) := by
 unfold S75
 have hl2 := g.len2
 have hpl := pcs_len l 0
 rw [mk_ok (by omega) (by omega), S121_eq hk (by omega), Option.bind_some]
 have := loopF (L := fun j (out : List Int) i => L75_4 k j l out (pcs 0 l) i) (n := l.length)
  (fun i out => out.length = l.length ∧ ∀ j, j < i → out.getD j 0 = tmA l (j : Int) (pcs 0 l) 1)
  (fun i out => out.set i (tmA l (i : Int) (pcs 0 l) 1)) (fun out => some ((out, ()), ()))
  (fun j i out hi hv => by
   show L75_4 k (j + 1) l out (pcs 0 l) (i : Int) = _
   rw [L75_4_s, l75_4, bif_t (by omega), ix_nat (by omega), upd_nat]
   have hset : (out.set i 1).getD i 0 = 1 := by rw [set_get, if_pos ⟨rfl, by omega⟩]
   have hb := g.bodies i hi
   refine (L75_8_eq g hi (pcs 0 l).length 0 k (out.set i 1) (by omega) (by omega) (by rw [List.length_set]; exact hv.1) (by rw [hset]; omega) (by
    rw [hset, List.drop_zero]
    have : cB (i : Int) (pcs 0 l) = 0 ∨ cB (i : Int) (pcs 0 l) = 1 ∨ cB (i : Int) (pcs 0 l) = 2 := by omega
    rcases this with e | e | e <;> rw [e] <;> decide)).trans ?_
   rw [hset, List.set_set, List.drop_zero])
  (fun i out hi hv => by
   refine ⟨by rw [List.length_set]; exact hv.1, fun j hj => ?_⟩
   rw [set_get]
   by_cases e : i = j
   ·subst e; rw [if_pos ⟨rfl, by omega⟩]
   ·rw [if_neg (fun h => e h.1)]; exact hv.2 j (by omega))
  (fun j out hv => by
   show L75_4 k (j + 1) l out (pcs 0 l) (l.length : Int) = _
   rw [L75_4_s, l75_4, bif_f (by omega)])
  l.length 0 k (List.replicate l.length 0) (by omega) (by omega) ⟨by simp, fun j hj => by omega⟩
 refine Eq.trans this ?_
 have hv := goF_inv (inv := fun i (out : List Int) => out.length = l.length ∧ ∀ j, j < i → out.getD j 0 = tmA l (j : Int) (pcs 0 l) 1) (f := fun i out => out.set i (tmA l (i : Int) (pcs 0 l) 1)) (n := l.length) (fun i out hi hv => by
   refine ⟨by rw [List.length_set]; exact hv.1, fun j hj => ?_⟩
   rw [set_get]
   by_cases e : i = j
   ·subst e; rw [if_pos ⟨rfl, by have := hv.1; omega⟩]
   ·rw [if_neg (fun h => e h.1)]; exact hv.2 j (by omega)) l.length 0 (List.replicate l.length 0) (by omega) ⟨by simp, fun j hj => by omega⟩
 have : goF (fun i (out : List Int) => out.set i (tmA l (i : Int) (pcs 0 l) 1)) l.length 0 (List.replicate l.length 0) = tms l := by
  apply List.ext_getElem (by rw [hv.1, tms_len])
  intro n h1 h2
  rw [← getD_in (z := 0) h1, ← getD_in (z := 0) h2, tms_get (by rw [tms_len] at h2; exact h2), hv.2 n (by rw [tms_len] at h2; exact h2)]
 rw [this]
/-! ### the program's -/
def mulR (c : Int) : List Int → Nat → Nat → List Int
 | out, _, 0 => out
 | out, i, m + 1 => mulR c (out.set i (out.getD i 0 * c)) (i + 1) m
theorem mulR_len (c : Int) : ∀ (m i : Nat) (out : List Int), (mulR c out i m).length = out.length
 | 0, _, _ => rfl
 | m + 1, i, out => by rw [mulR, mulR_len c m, List.length_set]
theorem mulR_get (c : Int) : ∀ (m i : Nat) (out : List Int) (j : Nat), i + m ≤ out.length → (mulR c out i m).getD j 0 = if i ≤ j ∧ j < i + m then out.getD j 0 * c else out.getD j 0
 | 0, i, out, j, _ => by rw [mulR, if_neg (by omega)]
 | m + 1, i, out, j, h => by
  rw [mulR, mulR_get c m (i + 1) _ j (by simp only [List.length_set]; omega), set_get]
  by_cases e : i = j
  ·subst e
   rw [if_neg (by omega), if_pos ⟨rfl, by omega⟩, if_pos (by omega)]
  ·rw [if_neg (fun h : i = j ∧ j < out.length => e h.1)]
   by_cases e2 : i + 1 ≤ j ∧ j < i + 1 + m
   ·rw [if_pos e2, if_pos (by omega)]
   ·rw [if_neg e2, if_neg (by omega)]
theorem L78_12_eq {k : Nat} {g8 : List Int → List I4 → Int → Int → Option ((List Int × Unit) × Unit)} {i x x1 x2 c t21 t22 : Int} {t20 : List I4} (hc : 1 ≤ c ∧ c ≤ 20) : ∀ (m n j : Nat) (out : List Int), i + x2 + 1 = ((n + m : Nat) : Int) → n + m ≤ out.length → out.length ≤ 900 → m < j → (∀ j, n ≤ j → j < n + m → 1 ≤ out.getD j 0 ∧ out.getD j 0 * c ≤ 400) →
  L78_12 k g8 j out i x x1 x2 c n t20 t21 t22 = g8 (mulR c out n m) t20 t21 (IntKind.i64.wrap (t22 + 1))
 | 0, n, j, out, h, ho, hl, hj, hb => by
  obtain ⟨j', rfl⟩ : ∃ j', j = j' + 1 := ⟨j - 1, by omega⟩
  rw [L78_12_s, l78_12, w64 (by omega) (by omega), bif_f (by omega), mulR]
 | m + 1, n, j, out, h, ho, hl, hj, hb => by
  obtain ⟨j', rfl⟩ : ∃ j', j = j' + 1 := ⟨j - 1, by omega⟩
  have h1 := hb n (by omega) (by omega)
  have h2 : out.getD n 0 ≤ 400 := by
   have := Int.mul_le_mul_of_nonneg_left hc.1 (show 0 ≤ out.getD n 0 by omega)
   omega
  rw [L78_12_s, l78_12, w64 (by omega) (by omega), bif_t (by omega), ix_nat (by omega), rd_nat, S51_ok k (by omega) (by omega) (by omega), Option.bind_some, ix_nat (by omega), w64_nat (by omega), upd_nat, mulR]
  refine L78_12_eq hc m (n + 1) j' _ (by omega) (by simp only [List.length_set]; omega) (by simp only [List.length_set]; omega) (by omega) (fun j hj1 hj2 => ?_)
  rw [set_get, if_neg (by omega)]
  exact hb j (by omega) (by omega)
theorem pcs_snoc {l : List I4} {i : Nat} (hi : i < l.length) : pcs 0 (l.take (i + 1)) = pcs 0 (l.take i) ++ pc i (l.getD i i0) := by
 have : l.take (i + 1) = l.take i ++ [l.getD i i0] := by rw [List.take_add_one, getD_in hi, List.getElem?_eq_getElem hi]; rfl
 rw [this, pcs_app, List.length_take, Nat.zero_add, show min i l.length = i by omega]
 simp [pcs]
theorem pcs_split {l : List I4} {i : Nat} (hi : i ≤ l.length) : pcs 0 l = pcs 0 (l.take i) ++ pcs i (l.drop i) := by
 have := pcs_app (l.take i) (l.drop i) 0
 rw [List.take_append_drop, List.length_take, Nat.zero_add, show min i l.length = i by omega] at this
 exact this
theorem S78_eq {k : Nat} (hk : 1000 ≤ k) {l : List I4} {ps : List Int} (g : GoodA l ps) : S78 k l = some ((tms l, ()), ()) := by
 unfold S78
 have hl2 := g.len2
 rw [mk_ok (by omega) (by omega), List.length_replicate, Int.toNat_natCast]
 have h1 := loopF (L := fun j (out : List Int) i => L78_3 k j l out (l.length : Int) i) (n := l.length)
  (fun i out => out.length = l.length ∧ ∀ j, j < i → out.getD j 0 = 1)
  (fun i out => out.set i 1) (fun out => L78_8 k k out l (l.length : Int) 0)
  (fun j i out hi hv => by
   show L78_3 k (j + 1) l out (l.length : Int) (i : Int) = _
   rw [L78_3_s, l78_3, bif_t (by omega), ix_nat (by omega), upd_nat, w64_nat (by omega)])
  (fun i out hi hv => by
   refine ⟨by rw [List.length_set]; exact hv.1, fun j hj => ?_⟩
   rw [set_get]
   by_cases e : i = j
   ·subst e; rw [if_pos ⟨rfl, by omega⟩]
   ·rw [if_neg (fun h => e h.1)]; exact hv.2 j (by omega))
  (fun j out hv => by
   show L78_3 k (j + 1) l out (l.length : Int) (l.length : Int) = _
   rw [L78_3_s, l78_3, bif_f (by omega)])
  l.length 0 k (List.replicate l.length 0) (by omega) (by omega) ⟨by simp, fun j hj => by omega⟩
 refine Eq.trans h1 ?_
 have hv := goF_inv (inv := fun i (out : List Int) => out.length = l.length ∧ ∀ j, j < i → out.getD j 0 = 1) (f := fun i out => out.set i 1) (n := l.length) (fun i out hi hv => by
   refine ⟨by rw [List.length_set]; exact hv.1, fun j hj => ?_⟩
   rw [set_get]
   by_cases e : i = j
   ·subst e; rw [if_pos ⟨rfl, by have := hv.1; omega⟩]
   ·rw [if_neg (fun h => e h.1)]; exact hv.2 j (by omega)) l.length 0 (List.replicate l.length 0) (by omega) ⟨by simp, fun j hj => by omega⟩
 generalize goF (fun i (out : List Int) => out.set i 1) l.length 0 (List.replicate l.length 0) = out0 at hv ⊢
 have hinv : ∀ i (out : List Int), i < l.length → (out.length = l.length ∧ ∀ j, j < l.length → out.getD j 0 = tmA l (j : Int) (pcs 0 (l.take i)) 1) → ((if (l.getD i i0).1 = 8 then mulR (l.getD i i0).2.2.2 out (i + 1) (wd (l.getD i i0)) else out).length = l.length ∧ ∀ j, j < l.length → (if (l.getD i i0).1 = 8 then mulR (l.getD i i0).2.2.2 out (i + 1) (wd (l.getD i i0)) else out).getD j 0 = tmA l (j : Int) (pcs 0 (l.take (i + 1))) 1) := by
  intro i out hi ⟨h2, h3⟩
  have hm := g.may _ (getD_mem (z := i0) hi)
  by_cases e : (l.getD i i0).1 = 8
  ·have hA : isA (l.getD i i0) = true := by simp only [isA, e]; rfl
   have hw := mayA_wd hm hA
   have hlast := g.last (arOf i (l.getD i i0)) ((pcs_mem_iff l 0 _ g.may (by omega)).2 ⟨i, hi, hA, by rw [Nat.zero_add]⟩)
   have e2 : (arOf i (l.getD i i0)).2.1 = ((i + wd (l.getD i i0) : Nat) : Int) := rfl
   rw [if_pos e]
   refine ⟨by rw [mulR_len]; exact h2, fun j hj => ?_⟩
   rw [mulR_get _ _ _ _ _ (by omega), pcs_snoc hi, tmA_app, ← h3 j hj, pc_may hm (by omega), if_pos hA, tmA, tmA]
   have e3 : (arOf i (l.getD i i0)).2.2.2 = true := by simp only [arOf, e]; rfl
   have e4 : (arOf i (l.getD i i0)).2.2.1 = (i : Int) := rfl
   rw [e3, e4, rd_nat, Bool.true_and]
   by_cases h5 : i + 1 ≤ j ∧ j < i + 1 + wd (l.getD i i0)
   ·rw [if_pos h5, show hasA (arOf i (l.getD i i0)) (j : Int) = true by rw [has_iff]; simp only [arOf]; omega]; rfl
   ·rw [if_neg h5, show hasA (arOf i (l.getD i i0)) (j : Int) = false by rw [← Bool.not_eq_true, has_iff]; simp only [arOf]; omega]; rfl
  ·rw [if_neg e]
   refine ⟨h2, fun j hj => ?_⟩
   rw [pcs_snoc hi, tmA_app, ← h3 j hj, pc_may hm (by omega)]
   split
   ·have e3 : (arOf i (l.getD i i0)).2.2.2 = false := by simp only [arOf]; simpa using e
    rw [tmA, tmA, e3]; rfl
   ·rfl
 have h2 := loopF (L := fun j (out : List Int) i => L78_8 k j out l (l.length : Int) i) (n := l.length)
  (fun i out => out.length = l.length ∧ ∀ j, j < l.length → out.getD j 0 = tmA l (j : Int) (pcs 0 (l.take i)) 1)
  (fun i out => if (l.getD i i0).1 = 8 then mulR (l.getD i i0).2.2.2 out (i + 1) (wd (l.getD i i0)) else out) (fun out => some ((out, ()), ()))
  (fun j i out hi hv => by
   show L78_8 k (j + 1) out l (l.length : Int) (i : Int) = _
   rw [L78_8_s, l78_8, bif_t (by omega), ix_nat hi, rd_nat, w64_nat (by omega)]
   have hm := g.may _ (getD_mem (z := i0) hi)
   by_cases e : (l.getD i i0).1 = 8
   ·have hA : isA (l.getD i i0) = true := by simp only [isA, e]; rfl
    have hw := mayA_wd hm hA
    have hlast := g.last (arOf i (l.getD i i0)) ((pcs_mem_iff l 0 _ g.may (by omega)).2 ⟨i, hi, hA, by rw [Nat.zero_add]⟩)
    have e2 : (arOf i (l.getD i i0)).2.1 = ((i + wd (l.getD i i0) : Nat) : Int) := rfl
    have e3 : (arOf i (l.getD i i0)).2.2.2 = true := by simp only [arOf, e]; rfl
    have hN := (may8 hm e).2.2
    have hpm : arOf i (l.getD i i0) ∈ pcs 0 l := (pcs_mem_iff l 0 _ g.may (by omega)).2 ⟨i, hi, hA, by rw [Nat.zero_add]⟩
    rw [if_pos e, show ((l.getD i i0).1 != 8) = false by rw [e]; rfl, cond_false]
    refine (L78_12_eq (x2 := (l.getD i i0).2.2.1) hN (wd (l.getD i i0)) (i + 1) k out (by have := hw.2.2.1 e; omega) (by omega) (by omega) (by omega) (fun j hj1 hj2 => ?_)).trans (by rw [w64_nat (by omega)])
    rw [hv.2 j (by omega)]
    have hsplit := pcs_split (l := l) (i := i) (by omega)
    have hb := g.bodies j (by omega)
    have hcb : cB (j : Int) (pcs 0 (l.take i)) + 1 ≤ 2 := by
     have hs2 := pcs_split (l := l) (i := i + 1) (by omega)
     rw [hs2, pcs_snoc hi, cB_app, cB_app, pc_may hm (by omega), if_pos hA] at hb
     have : cB (j : Int) [arOf i (l.getD i i0)] = 1 := by
      rw [cB, List.countP_cons, List.countP_nil, e3, show hasA (arOf i (l.getD i i0)) (j : Int) = true by rw [has_iff]; simp only [arOf]; omega]; rfl
     omega
    have hbd := tmA_bound l (j : Int) (pcs 0 (l.take i)) 1 (by omega) (fun p hp => pcs_reps g p (by rw [hsplit]; exact List.mem_append_left _ hp))
    refine ⟨hbd.1, ?_⟩
    have h20 : tmA l (j : Int) (pcs 0 (l.take i)) 1 ≤ 20 := by
     refine Int.le_trans hbd.2 ?_
     have : cB (j : Int) (pcs 0 (l.take i)) = 0 ∨ cB (j : Int) (pcs 0 (l.take i)) = 1 := by omega
     rcases this with e | e <;> rw [e] <;> decide
    have := Int.mul_le_mul h20 hN.2 (by omega) (by omega)
    omega
   ·rw [if_neg e, show ((l.getD i i0).1 != 8) = true by simpa using e, cond_true])
  hinv
  (fun j out hv => by
   show L78_8 k (j + 1) out l (l.length : Int) (l.length : Int) = _
   rw [L78_8_s, l78_8, bif_f (by omega)])
  l.length 0 k out0 (by omega) (by omega) ⟨hv.1, fun j hj => by rw [hv.2 j hj]; rfl⟩
 refine Eq.trans h2 ?_
 have hv2 := goF_inv (n := l.length) hinv l.length 0 out0 (by omega) ⟨hv.1, fun j hj => by rw [hv.2 j hj]; rfl⟩
 generalize goF (fun i (out : List Int) => if (l.getD i i0).1 = 8 then mulR (l.getD i i0).2.2.2 out (i + 1) (wd (l.getD i i0)) else out) l.length 0 out0 = out1 at hv2 ⊢
 rw [List.take_length] at hv2
 have : out1 = tms l := by
  apply List.ext_getElem (by rw [hv2.1, tms_len])
  intro n h1 h2
  rw [tms_len] at h2
  rw [← getD_in (z := 0) h1, ← getD_in (z := 0) (by rw [tms_len]; exact h2), tms_get h2, hv2.2 n h2]
 rw [this]
end Go.Proofs.YteflacbgobpmcaaGreat.Ab

/- How long programs are: the answer told. -/
namespace Go.Proofs.YteflacbgobpmcaaGreat.Ab
open Go.RowKit Tr
set_option linter.unusedSimpArgs false
set_option linter.unusedVariables false
def sm : List Int → Int
 | [] => 0
 | x :: r => x + sm r
theorem sm_app : ∀ a b : List Int, sm (a ++ b) = sm a + sm b
 | [], b => by simp [sm]
 | x :: a, b => by rw [List.cons_append, sm, sm, sm_app a b]; omega
theorem sm_bound {c : Int} : ∀ (a : List Int), (∀ x ∈ a, 0 ≤ x ∧ x ≤ c) → 0 ≤ sm a ∧ sm a ≤ a.length * c
 | [], _ => by simp [sm]
 | x :: a, h => by
  have h1 := h x List.mem_cons_self
  have h2 := sm_bound a (fun y hy => h y (List.mem_cons_of_mem _ hy))
  rw [sm, List.length_cons]
  refine ⟨by omega, ?_⟩
  have : ((a.length + 1 : Nat) : Int) * c = (a.length : Int) * c + c := by rw [show ((a.length + 1 : Nat) : Int) = (a.length : Int) + 1 by omega, Int.add_mul, Int.one_mul]
  omega
theorem sm_nonneg : ∀ (a : List Int), (∀ x ∈ a, 0 ≤ x) → 0 ≤ sm a
 | [], _ => by simp [sm]
 | x :: a, h => by
  have h1 := h x List.mem_cons_self
  have h2 := sm_nonneg a (fun y hy => h y (List.mem_cons_of_mem _ hy))
  rw [sm]; omega
theorem L79_2_eq {k : Nat} {l : List Int} (hl : l.length ≤ 900) (hb : ∀ x ∈ l, 0 ≤ x) : ∀ (m i j : Nat) (s : Int), i + m = l.length → m < j → 0 ≤ s → s + sm (l.drop i) ≤ 9223372036854775807 → L79_2 k j s l (l.length : Int) i = some ((s + sm (l.drop i), ()), ())
 | 0, i, j, s, h, hj, h0, h1 => by
  obtain ⟨j', rfl⟩ : ∃ j', j = j' + 1 := ⟨j - 1, by omega⟩
  rw [L79_2_s, l79_2, bif_f (by omega), drop_nil (by omega), sm, Int.add_zero]
 | m + 1, i, j, s, h, hj, h0, h1 => by
  obtain ⟨j', rfl⟩ : ∃ j', j = j' + 1 := ⟨j - 1, by omega⟩
  have hx := hb _ (getD_mem (z := 0) (l := l) (i := i) (by omega))
  have hr := sm_nonneg (l.drop (i + 1)) (fun x hx => hb x (List.mem_of_mem_drop hx))
  rw [drop_cons 0 (show i < l.length by omega), sm] at h1 ⊢
  rw [L79_2_s, l79_2, bif_t (by omega), ix_nat (by omega), rd_nat, S52_ok k h0 hx (by omega), Option.bind_some, w64_nat (by omega)]
  dsimp only
  rw [L79_2_eq hl hb m (i + 1) j' _ (by omega) (by omega) (by omega) (by omega)]
  congr 3; omega
theorem S79_eq {k : Nat} (hk : 1000 ≤ k) {l : List Int} (hl : l.length ≤ 900) (hb : ∀ x ∈ l, 0 ≤ x) (hs : sm l ≤ 9223372036854775807) : S79 k l = some ((sm l, ()), ()) := by
 unfold S79
 have := L79_2_eq (k := k) hl hb l.length 0 k 0 (by omega) (by omega) (by omega) (by rw [List.drop_zero]; omega)
 rw [List.drop_zero, Int.zero_add] at this
 exact this
def cg (l : List I4) (ts ps : List Int) : Nat → Nat → Int → List (Int × Int) → Int → Int × List (Int × Int)
 | 0, _, c1, c2, _ => (c1, c2)
 | m + 1, i, c1, c2, p =>
  if (l.getD i i0).1 = 11 ∨ (l.getD i i0).1 = 0 then cg l ts ps m (i + 1) (max c1 (p + ts.getD i 0)) c2 0
  else if (l.getD i i0).1 = 9 then cg l ts ps m (i + 1) c1 (c2 ++ [((l.getD i i0).2.1, Int.tdiv (sm (sub ts ((i + 1 : Nat) : Int) (ps.getD i 0 + 1))) (ts.getD i 0))]) (p + ts.getD i 0)
  else cg l ts ps m (i + 1) c1 c2 (p + ts.getD i 0)
def costR (l : List I4) (ps : List Int) : Int × Int × List (Int × Int) := (sm (tms l), cg l (tms l) ps l.length 0 0 [] 0)
theorem sub_snoc {xs : List Int} {f i : Nat} (hf : f ≤ i) (hi : i < xs.length) : sub xs (f : Int) ((i + 1 : Nat) : Int) = sub xs (f : Int) (i : Int) ++ [xs.getD i 0] := by
 simp only [sub, Int.toNat_natCast]
 have : xs.take (i + 1) = xs.take i ++ [xs.getD i 0] := by rw [List.take_add_one, getD_in hi, List.getElem?_eq_getElem hi]; rfl
 rw [this, List.drop_append_of_le_length (by rw [List.length_take]; omega)]
theorem sub_mem {xs : List Int} {a b : Int} {x : Int} (h : x ∈ sub xs a b) : x ∈ xs := List.mem_of_mem_take (List.mem_of_mem_drop h)
theorem sub_len {xs : List Int} {a b : Int} : (sub xs a b).length ≤ xs.length := by
 simp only [sub, List.length_drop, List.length_take]; omega
theorem tms_mem {l : List I4} {ps : List Int} (g : GoodA l ps) : ∀ x ∈ tms l, 1 ≤ x ∧ x ≤ 400 := fun x hx => by
 obtain ⟨j, hj, rfl⟩ := mem_getD 0 hx
 exact tms_bound g (by rw [tms_len] at hj; exact hj)
theorem sm_sub {l : List I4} {ps : List Int} (g : GoodA l ps) (a b : Int) : 0 ≤ sm (sub (tms l) a b) ∧ sm (sub (tms l) a b) ≤ 9600 := by
 have := sm_bound (c := 400) (sub (tms l) a b) (fun x hx => by have := tms_mem g x (sub_mem hx); omega)
 have h2 : (sub (tms l) a b).length ≤ l.length := by rw [← tms_len l]; exact sub_len
 have h3 := g.len2
 refine ⟨this.1, ?_⟩
 have h4 : ((sub (tms l) a b).length : Int) * 400 ≤ 24 * 400 := Int.mul_le_mul_of_nonneg_right (by omega) (by omega)
 omega
theorem S79_sub {k : Nat} (hk : 1000 ≤ k) {l : List I4} {ps : List Int} (g : GoodA l ps) (a b : Int) : S79 k (sub (tms l) a b) = some ((sm (sub (tms l) a b), ()), ()) := by
 have h2 : (sub (tms l) a b).length ≤ l.length := by rw [← tms_len l]; exact sub_len
 have h3 := g.len2
 have h4 := sm_sub g a b
 exact S79_eq hk (by omega) (fun x hx => by have := tms_mem g x (sub_mem hx); omega) (by omega)
theorem lock_in {l : List I4} {ps : List Int} (g : GoodA l ps) {i : Nat} (hi : i < l.length) (h9 : (l.getD i i0).1 = 9) : ∃ u : Nat, ps.getD i 0 = (u : Int) ∧ i < u ∧ u < l.length := by
 obtain ⟨u, h1, h2, h3, _⟩ := (prI_prs g.pairs).closed i hi h9 (by simp)
 exact ⟨u, h1, h2, h3⟩
theorem L49_7_eq {k : Nat} (hk : 1000 ≤ k) {l : List I4} {ps : List Int} (g : GoodA l ps) {c : Int} : ∀ (m i j f : Nat) (c1 : Int) (c2 : List (Int × Int)), i + m = l.length → m < j → f ≤ i → c2.length ≤ i →
  L49_7 k j c c1 c2 (tms l) (f : Int) ps l (l.length : Int) (i : Int) = some (((c, cg l (tms l) ps m i c1 c2 (sm (sub (tms l) f i))), true, ()), ())
 | 0, i, j, f, c1, c2, h, hj, hf, hc => by
  obtain ⟨j', rfl⟩ : ∃ j', j = j' + 1 := ⟨j - 1, by omega⟩
  rw [L49_7_s, l49_7, bif_f (by omega), cg]
 | m + 1, i, j, f, c1, c2, h, hj, hf, hc => by
  obtain ⟨j', rfl⟩ : ∃ j', j = j' + 1 := ⟨j - 1, by omega⟩
  have hl2 := g.len2
  have htl := tms_len l
  have hpl := prs_len g.pairs
  have hi : i < l.length := by omega
  have hsn : sm (sub (tms l) (f : Int) ((i + 1 : Nat) : Int)) = sm (sub (tms l) f i) + (tms l).getD i 0 := by rw [sub_snoc hf (by omega), sm_app, sm, sm]; omega
  have h0 : sm (sub (tms l) ((i + 1 : Nat) : Int) ((i + 1 : Nat) : Int)) = 0 := by
   have : sub (tms l) ((i + 1 : Nat) : Int) ((i + 1 : Nat) : Int) = [] := by simp [sub]
   rw [this]; rfl
  rw [L49_7_s, l49_7, bif_t (by omega), ix_nat hi, rd_nat, w64_nat (by omega), cg]
  have mark : L49_7 k j' c (mx c1 (sm (sub (tms l) (f : Int) ((i + 1 : Nat) : Int)))) c2 (tms l) ((i + 1 : Nat) : Int) ps l (l.length : Int) ((i + 1 : Nat) : Int) = some (((c, cg l (tms l) ps m (i + 1) (max c1 (sm (sub (tms l) f i) + (tms l).getD i 0)) c2 0), true, ()), ()) := by
   rw [L49_7_eq hk g m (i + 1) j' (i + 1) _ _ (by omega) (by omega) (by omega) (by omega), h0, hsn, mx_eq]
  cases h11 : (l.getD i i0).1 == 11 with
  | true =>
   have e := eq_of_beq h11
   rw [if_pos (.inl e), cond_true, sx_ok (by omega) (by omega) (by omega), S79_sub hk g, Option.bind_some]
   exact mark
  | false =>
   rw [cond_false]
   have e11 : (l.getD i i0).1 ≠ 11 := by intro e; rw [e] at h11; cases h11
   cases h00 : (l.getD i i0).1 == 0 with
   | true =>
    have e := eq_of_beq h00
    rw [if_pos (.inr e), cond_true, sx_ok (by omega) (by omega) (by omega), S79_sub hk g, Option.bind_some]
    exact mark
   | false =>
    rw [cond_false]
    have e00 : (l.getD i i0).1 ≠ 0 := by intro e; rw [e] at h00; cases h00
    rw [if_neg (by rintro (h | h); exact e11 h; exact e00 h)]
    cases h9 : (l.getD i i0).1 == 9 with
    | true =>
     have e := eq_of_beq h9
     obtain ⟨u, h1, h2, h3⟩ := lock_in g hi e
     have ht := tms_bound g hi
     rw [if_pos e, cond_true, ix_nat (by omega), rd_nat, h1, w64_nat (by omega), sx_ok (by omega) (by omega) (by omega), S79_sub hk g, Option.bind_some]
     dsimp only
     rw [ix_nat (by omega), rd_nat, nz_ok (by omega), ap_ok (by simp only [List.length_cons, List.length_nil]; omega)]
     have hs := sm_sub g ((i + 1 : Nat) : Int) ((u + 1 : Nat) : Int)
     have hd : 0 ≤ Int.tdiv (sm (sub (tms l) ((i + 1 : Nat) : Int) ((u + 1 : Nat) : Int))) ((tms l).getD i 0) ∧ Int.tdiv (sm (sub (tms l) ((i + 1 : Nat) : Int) ((u + 1 : Nat) : Int))) ((tms l).getD i 0) ≤ 9600 := by
      rw [Int.tdiv_eq_ediv_of_nonneg hs.1]
      exact ⟨Int.ediv_nonneg hs.1 (by omega), Int.le_trans (Int.ediv_le_self _ hs.1) hs.2⟩
     rw [w64 (by omega) (by omega), L49_7_eq hk g m (i + 1) j' f _ _ (by omega) (by omega) (by omega) (by simp only [List.length_append, List.length_cons, List.length_nil]; omega), hsn, show ((u : Int) + 1) = ((u + 1 : Nat) : Int) by omega]
    | false =>
     have e9 : (l.getD i i0).1 ≠ 9 := by intro e; rw [e] at h9; cases h9
     rw [cond_false, if_neg e9, L49_7_eq hk g m (i + 1) j' f _ _ (by omega) (by omega) (by omega) (by omega), hsn]
theorem sub_all (l : List Int) : sub l ((0 : Nat) : Int) (l.length : Int) = l := by simp [sub]
def costO (l : List I4) (c : Option (Int × Int × List (Int × Int))) : Option (((Int × Int × List (Int × Int)) × Bool × Unit) × Unit) := match c with | some c => some ((c, true, ()), ()) | none => some (((0, 0, []), false, ()), ())
noncomputable def costOf (l : List I4) : Option (Int × Int × List (Int × Int)) := if mayA l = true then some (costR l ((prs l).getD [])) else none
theorem costOf_good {l : List I4} {ps : List Int} (g : GoodA l ps) : costOf l = some (costR l ps) := by
 unfold costOf; rw [if_pos (mayA_iff.2 ⟨ps, g⟩), g.pairs]; rfl
theorem S49_eq {k : Nat} (hk : 1000 ≤ k) {l : List I4} (hl : l.length ≤ 900) : S49 k l = costO l (costOf l) := by
 unfold S49
 rw [S34_eq hk hl, Option.bind_some]
 cases hm : mayA l with
 | false =>
  have : costOf l = none := by unfold costOf; rw [hm]; rfl
  rw [this]; rfl
 | true =>
  obtain ⟨ps, g⟩ := mayA_iff.1 hm
  have hl2 := g.len2
  simp only [Bool.not_true, cond_false]
  rw [S78_eq hk g, Option.bind_some, S68_eq hk g.len2, g.pairs]
  simp only [prOut, Option.bind_some]
  have h1 := S79_sub hk g ((0 : Nat) : Int) ((tms l).length : Int)
  rw [sub_all] at h1
  rw [h1, Option.bind_some, costOf_good g]
  have := L49_7_eq hk g (c := sm (tms l)) l.length 0 k 0 0 [] (by omega) (by omega) (by omega) (by simp)
  have h0 : sm (sub (tms l) ((0 : Nat) : Int) ((0 : Nat) : Int)) = 0 := by simp [sub, sm]
  rw [h0] at this
  exact this
/-! ### the document's -/
theorem L41_16_eq {k : Nat} {g8 : List I4 → Int → Int → Int → Int → List (Int × Int) → List Int → List Int → Int → Int → Option (((Int × Int × List (Int × Int)) × Bool × Unit) × Unit)} {l : List I4} {ps : List Int} (g : GoodA l ps) {y1 y2 c c1 p : Int} {c2 : List (Int × Int)} {i u : Nat} (hu : ps.getD i 0 = (u : Int)) (hiu : i < u) (hul : u < l.length) (hc : c2.length ≤ 900) : ∀ (m n j : Nat) (s : Int), n + m = u + 1 → m < j → i < n → s = sm (sub (tms l) ((i + 1 : Nat) : Int) (n : Int)) →
  L41_16 k g8 j l y1 y2 c c1 c2 (tms l) ps p (i : Int) s (n : Int) = g8 l y1 y2 c c1 (c2 ++ [((l.getD i i0).2.1, Int.tdiv (sm (sub (tms l) ((i + 1 : Nat) : Int) ((u : Int) + 1))) ((tms l).getD i 0))]) (tms l) ps p ((i + 1 : Nat) : Int)
 | 0, n, j, s, h, hj, hin, hs => by
  obtain ⟨j', rfl⟩ : ∃ j', j = j' + 1 := ⟨j - 1, by omega⟩
  have hl2 := g.len2
  have hpl := prs_len g.pairs
  have htl := tms_len l
  have ht := tms_bound g (j := i) (by omega)
  have hsb := sm_sub g ((i + 1 : Nat) : Int) ((u + 1 : Nat) : Int)
  have hd : 0 ≤ Int.tdiv (sm (sub (tms l) ((i + 1 : Nat) : Int) ((u + 1 : Nat) : Int))) ((tms l).getD i 0) ∧ Int.tdiv (sm (sub (tms l) ((i + 1 : Nat) : Int) ((u + 1 : Nat) : Int))) ((tms l).getD i 0) ≤ 9600 := by
   rw [Int.tdiv_eq_ediv_of_nonneg hsb.1]
   exact ⟨Int.ediv_nonneg hsb.1 (by omega), Int.le_trans (Int.ediv_le_self _ hsb.1) hsb.2⟩
  have hnu : n = u + 1 := by omega
  subst hnu
  rw [L41_16_s, l41_16, ix_nat (by omega), rd_nat, hu, bif_f (by omega), ix_nat (by omega), ix_nat (by omega), rd_nat, nz_ok (by omega), hs, ap_ok (by simp only [List.length_cons, List.length_nil]; omega), w64 (by omega) (by omega), w64_nat (by omega), rd_nat]
  rfl
 | m + 1, n, j, s, h, hj, hin, hs => by
  obtain ⟨j', rfl⟩ : ∃ j', j = j' + 1 := ⟨j - 1, by omega⟩
  have hl2 := g.len2
  have hpl := prs_len g.pairs
  have htl := tms_len l
  have ht := tms_bound g (j := n) (by omega)
  have hsb := sm_sub g ((i + 1 : Nat) : Int) (n : Int)
  rw [L41_16_s, l41_16, ix_nat (by omega), rd_nat, hu, bif_t (by omega), ix_nat (by omega), rd_nat, w64_nat (by omega), w64 (by omega) (by omega)]
  refine L41_16_eq g hu hiu hul hc m (n + 1) j' _ (by omega) (by omega) (by omega) ?_
  rw [sub_snoc (by omega) (by omega), sm_app, ← hs, sm, sm]; omega
theorem L41_8_eq {k : Nat} (hk : 1000 ≤ k) {l : List I4} {ps : List Int} (g : GoodA l ps) {y1 y2 : Int} : ∀ (m i j : Nat) (c c1 p : Int) (c2 : List (Int × Int)), i + m = l.length → m < j → c2.length ≤ i → 0 ≤ c → c + sm ((tms l).drop i) ≤ 1000000 → 0 ≤ p → p + sm ((tms l).drop i) ≤ 1000000 →
  L41_8 k j l y1 y2 c c1 c2 (tms l) ps p (i : Int) = some (((c + sm ((tms l).drop i), cg l (tms l) ps m i c1 c2 p), true, ()), ())
 | 0, i, j, c, c1, p, c2, h, hj, hc, _, _, _, _ => by
  obtain ⟨j', rfl⟩ : ∃ j', j = j' + 1 := ⟨j - 1, by omega⟩
  have htl := tms_len l
  rw [L41_8_s, l41_8, bif_f (by omega), cg, drop_nil (by omega), sm, Int.add_zero]
 | m + 1, i, j, c, c1, p, c2, h, hj, hc, b1, b2, b3, b4 => by
  obtain ⟨j', rfl⟩ : ∃ j', j = j' + 1 := ⟨j - 1, by omega⟩
  have hl2 := g.len2
  have htl := tms_len l
  have hpl := prs_len g.pairs
  have hi : i < l.length := by omega
  have ht := tms_bound g hi
  have ih := L41_8_eq hk g (y1 := y1) (y2 := y2) m (i + 1) j'
  have hr := sm_nonneg ((tms l).drop (i + 1)) (fun x hx => by have := tms_mem g x (List.mem_of_mem_drop hx); omega)
  rw [drop_cons 0 (show i < (tms l).length by omega), sm] at b2 b4
  rw [L41_8_s, l41_8, bif_t (by omega), ix_nat (by omega), ix_nat (by omega), ix_nat hi, rd_nat, ix_nat hi, rd_nat, w64 (by omega) (by omega), w64 (by omega) (by omega), cg, drop_cons 0 (show i < (tms l).length by omega), sm, mx_eq]
  unfold j41_13
  rw [ix_nat hi, ix_nat hi, rd_nat, w64_nat (by omega)]
  have fin : ∀ (c1' p' : Int) (c2' : List (Int × Int)), c2'.length ≤ i + 1 → 0 ≤ p' → p' + sm ((tms l).drop (i + 1)) ≤ 1000000 → L41_8 k j' l y1 y2 (c + (tms l).getD i 0) c1' c2' (tms l) ps p' ((i + 1 : Nat) : Int) = some (((c + ((tms l).getD i 0 + sm ((tms l).drop (i + 1))), cg l (tms l) ps m (i + 1) c1' c2' p'), true, ()), ()) := fun c1' p' c2' h1 h2 h3 => by
   rw [ih _ _ _ _ (by omega) (by omega) h1 (by omega) (by omega) h2 h3]
   congr 4; omega
  cases h11 : (l.getD i i0).1 == 11 with
  | true =>
   have e := eq_of_beq h11
   rw [cond_true, if_pos (.inl e), show ((l.getD i i0).1 == 9) = false by rw [e]; rfl, cond_false]
   exact fin _ _ _ (by omega) (by omega) (by omega)
  | false =>
   rw [cond_false]
   have e11 : (l.getD i i0).1 ≠ 11 := by intro e; rw [e] at h11; cases h11
   cases h00 : (l.getD i i0).1 == 0 with
   | true =>
    have e := eq_of_beq h00
    rw [cond_true, if_pos (.inr e), show ((l.getD i i0).1 == 9) = false by rw [e]; rfl, cond_false]
    exact fin _ _ _ (by omega) (by omega) (by omega)
   | false =>
    rw [cond_false]
    have e00 : (l.getD i i0).1 ≠ 0 := by intro e; rw [e] at h00; cases h00
    rw [if_neg (by rintro (h | h); exact e11 h; exact e00 h)]
    cases h9 : (l.getD i i0).1 == 9 with
    | true =>
     have e := eq_of_beq h9
     obtain ⟨u, h1, h2, h3⟩ := lock_in g hi e
     rw [if_pos e, cond_true, h1]
     refine (L41_16_eq g h1 h2 h3 (by omega) (u - i) (i + 1) k 0 (by omega) (by omega) (by omega) (by simp [sub, sm])).trans ?_
     exact fin _ _ _ (by simp only [List.length_append, List.length_cons, List.length_nil]; omega) (by omega) (by omega)
    | false =>
     have e9 : (l.getD i i0).1 ≠ 9 := by intro e; rw [e] at h9; cases h9
     rw [cond_false, if_neg e9]
     exact fin _ _ _ (by omega) (by omega) (by omega)
theorem S41_eq {k : Nat} (hk : 1000 ≤ k) {l : List I4} (hl : l.length ≤ 900) : S41 k l = costO l (costOf l) := by
 unfold S41
 rw [S74_eq hk hl, Option.bind_some, mayB_eq]
 cases hm : mayA l with
 | false =>
  have : costOf l = none := by unfold costOf; rw [hm]; rfl
  rw [this]; rfl
 | true =>
  obtain ⟨ps, g⟩ := mayA_iff.1 hm
  have hl2 := g.len2
  simp only [Bool.not_true, cond_false]
  rw [S75_eq hk g, Option.bind_some, S76_eq hk hl, g.pairs]
  simp only [prOut, Option.bind_some]
  rw [costOf_good g]
  have hs := sm_sub g ((0 : Nat) : Int) ((tms l).length : Int)
  rw [sub_all] at hs
  have := L41_8_eq hk g (y1 := 0) (y2 := 0) l.length 0 k 0 0 0 [] (by omega) (by omega) (by simp) (by omega) (by rw [List.drop_zero]; omega) (by omega) (by rw [List.drop_zero]; omega)
  rw [Int.zero_add, List.drop_zero] at this
  exact this
end Go.Proofs.YteflacbgobpmcaaGreat.Ab

/- How long programs are: the law of both answers. -/
namespace Go.Proofs.YteflacbgobpmcaaGreat.Ab
open Go.RowKit Tr
set_option linter.unusedSimpArgs false
set_option linter.unusedVariables false
theorem cg_len {l : List I4} {ts ps : List Int} : ∀ (m i : Nat) (c1 p : Int) (c2 : List (Int × Int)), (cg l ts ps m i c1 c2 p).2.length ≤ c2.length + m
 | 0, _, _, _, c2 => by simp [cg]
 | m + 1, i, c1, p, c2 => by
  rw [cg]
  split
  ·have := cg_len (l := l) (ts := ts) (ps := ps) m (i + 1) (max c1 (p + ts.getD i 0)) 0 c2; omega
  ·split
   ·have := cg_len (l := l) (ts := ts) (ps := ps) m (i + 1) c1 (p + ts.getD i 0) (c2 ++ [((l.getD i i0).2.1, Int.tdiv (sm (sub ts ((i + 1 : Nat) : Int) (ps.getD i 0 + 1))) (ts.getD i 0))])
    simp only [List.length_append, List.length_cons, List.length_nil] at this; omega
   ·have := cg_len (l := l) (ts := ts) (ps := ps) m (i + 1) c1 (p + ts.getD i 0) c2; omega
theorem costOf_len {l : List I4} {c : Int × Int × List (Int × Int)} (h : costOf l = some c) : c.2.2.length ≤ 24 := by
 unfold costOf at h
 split at h
 ·rename_i hm
  injection h with h; subst h
  obtain ⟨ps, g⟩ := mayA_iff.1 hm
  have h1 := g.len2
  have h2 := cg_len (l := l) (ts := tms l) (ps := (prs l).getD []) l.length 0 0 0 []
  simp only [costR]
  simp only [List.length_nil] at h2
  omega
 ·cases h
end Go.Proofs.YteflacbgobpmcaaGreat.Ab

/- How long a tree is. -/
namespace Go.Proofs.YteflacbgobpmcaaGreat.Ab
open Go.RowKit Tr
set_option linter.unusedSimpArgs false
set_option linter.unusedVariables false
def repOf (x : I4) : Int := if x.1 = 8 then x.2.2.2 else 1
theorem repOf_may {x : I4} (h : mayI x = true) : 1 ≤ repOf x ∧ repOf x ≤ 20 := by
 unfold repOf
 split
 ·rename_i e; exact (may8 h e).2.2
 ·omega
namespace Tr
def cost : Tr → Int
 | .nil => 0
 | .one _ r => 1 + cost r
 | .lk _ b r => 2 + cost b + cost r
 | .ar x b r => 1 + repOf x * cost b + cost r
def ts : Int → Tr → List Int
 | _, .nil => []
 | M, .one _ r => M :: ts M r
 | M, .lk _ b r => M :: (ts M b ++ (M :: ts M r))
 | M, .ar x b r => M :: (ts (M * repOf x) b ++ ts M r)
def spans : Tr → List (Int × Int)
 | .nil => []
 | .one _ r => spans r
 | .lk a b r => (a, cost b + 1) :: (spans b ++ spans r)
 | .ar _ b r => spans b ++ spans r
def piece : Int → Tr → Int × Int → Int × Int
 | _, .nil, s => s
 | M, .one x r, s => piece M r (if x.1 = 11 then (max s.1 (s.2 + M), 0) else (s.1, s.2 + M))
 | M, .lk _ b r, s => piece M r ((piece M b (s.1, s.2 + M)).1, (piece M b (s.1, s.2 + M)).2 + M)
 | M, .ar x b r, s => piece M r (piece (M * repOf x) b (s.1, s.2 + M))
end Tr
theorem ts_len : ∀ (t : Tr) (M : Int), (t.ts M).length = t.len
 | .nil, _ => rfl
 | .one _ r, M => by simp only [Tr.ts, Tr.len, List.length_cons, ts_len r]
 | .lk _ b r, M => by simp only [Tr.ts, Tr.len, List.length_cons, List.length_append, ts_len b, ts_len r]; omega
 | .ar _ b r, M => by simp only [Tr.ts, Tr.len, List.length_cons, List.length_append, ts_len b, ts_len r]
theorem ts_sum : ∀ (t : Tr) (M : Int), sm (t.ts M) = M * t.cost
 | .nil, M => by simp [Tr.ts, Tr.cost, sm]
 | .one _ r, M => by simp only [Tr.ts, Tr.cost, sm, ts_sum r M]; grind
 | .lk _ b r, M => by simp only [Tr.ts, Tr.cost, sm, sm_app, ts_sum b M, ts_sum r M]; grind
 | .ar x b r, M => by simp only [Tr.ts, Tr.cost, sm, sm_app, ts_sum b, ts_sum r M]; grind
theorem cost_nonneg : ∀ {t : Tr} {d : Nat} {hs : List Int} {ia : Bool}, Ok d hs ia t → 0 ≤ t.cost
 | .nil, _, _, _, _ => by simp [Tr.cost]
 | .one x r, _, _, _, ⟨_, _, _, h4⟩ => by have := cost_nonneg h4; simp only [Tr.cost]; omega
 | .lk a b r, _, _, _, ⟨_, _, h3, h4⟩ => by have := cost_nonneg h3; have := cost_nonneg h4; simp only [Tr.cost]; omega
 | .ar x b r, _, _, _, ⟨h1, _, h3, h4⟩ => by
  have h5 := cost_nonneg h3; have := cost_nonneg h4
  have := Int.mul_nonneg (show 0 ≤ repOf x by have := repOf_may h1.1; omega) h5
  simp only [Tr.cost]; omega
theorem tmA_tree : ∀ {t : Tr} {d : Nat} {hs : List Int} {ia : Bool} {l : List I4} {o : Nat} (M : Int), Ok d hs ia t → At l o t.flat → o + t.len ≤ 9000 → ∀ j, j < t.len → tmA l ((o + j : Nat) : Int) (pcs o t.flat) M = (t.ts M).getD j 0
 | .nil, _, _, _, _, _, _, _, _, _, j, hj => by simp only [Tr.len] at hj; omega
 | .one x r, _, _, _, l, o, M, ⟨h1, h2, _, h4⟩, ha, ho, j, hj => by
  simp only [Tr.len] at hj ho
  obtain ⟨a1, a2, a3⟩ := At_cons ha
  rw [pcs_one h1 h2 (by omega), Tr.ts]
  cases j with
  | zero =>
   rw [List.getD_cons_zero, tmA_none]
   intro p hp
   have := ar_in h4 (by omega) p hp
   rw [← Bool.not_eq_true, has_iff]; omega
  | succ j =>
   rw [List.getD_cons_succ, ← tmA_tree M h4 a3 (by omega) j (by omega)]
   congr 2; omega
 | .lk a b r, _, _, _, l, o, M, ⟨h1, _, h3, h4⟩, ha, ho, j, hj => by
  simp only [Tr.len] at hj ho
  obtain ⟨a1, a2, a3⟩ := At_cons ha
  obtain ⟨a4, a5⟩ := At_app a3
  obtain ⟨a6, a7, a8⟩ := At_cons a5
  rw [flat_len] at a6 a7 a8
  rw [show o + 1 + b.len + 1 = o + b.len + 2 by omega] at a8
  have nb : ∀ k : Nat, k ≤ o ∨ o + b.len + 1 ≤ k → ∀ M', tmA l (k : Int) (pcs (o + 1) b.flat) M' = M' := fun k hk M' => tmA_none l _ _ _ (fun p hp => by
   have := ar_in h3 (by omega) p hp
   rw [← Bool.not_eq_true, has_iff]; omega)
  have nr : ∀ k : Nat, k ≤ o + b.len + 2 → ∀ M', tmA l (k : Int) (pcs (o + b.len + 2) r.flat) M' = M' := fun k hk M' => tmA_none l _ _ _ (fun p hp => by
   have := ar_in h4 (by omega) p hp
   rw [← Bool.not_eq_true, has_iff]; omega)
  rw [pcs_lk h1 (by omega), tmA_app, Tr.ts]
  cases j with
  | zero => rw [List.getD_cons_zero, nb _ (by omega), nr _ (by omega)]
  | succ j =>
   rw [List.getD_cons_succ]
   by_cases e : j < b.len
   ·rw [getD_app_l (by rw [ts_len]; exact e), nr _ (by omega), ← tmA_tree M h3 a4 (by omega) j e]
    congr 2; omega
   ·rw [getD_app_r (by rw [ts_len]; omega), ts_len, nb _ (by omega)]
    by_cases e2 : j = b.len
    ·subst e2; rw [Nat.sub_self, List.getD_cons_zero, nr _ (by omega)]
    ·obtain ⟨n, hn⟩ : ∃ n, j - b.len = n + 1 := ⟨j - b.len - 1, by omega⟩
     rw [hn, List.getD_cons_succ, ← tmA_tree M h4 a8 (by omega) n (by omega)]
     congr 2; omega
 | .ar x b r, _, _, _, l, o, M, ⟨⟨h1, h2, h3⟩, _, h5, h6⟩, ha, ho, j, hj => by
  simp only [Tr.len] at hj ho
  obtain ⟨a1, a2, a3⟩ := At_cons ha
  obtain ⟨a4, a5⟩ := At_app a3
  rw [flat_len, show o + 1 + b.len = o + b.len + 1 by omega] at a5
  have nb : ∀ k : Nat, k ≤ o ∨ o + b.len + 1 ≤ k → ∀ M', tmA l (k : Int) (pcs (o + 1) b.flat) M' = M' := fun k hk M' => tmA_none l _ _ _ (fun p hp => by
   have := ar_in h5 (by omega) p hp
   rw [← Bool.not_eq_true, has_iff]; omega)
  have nr : ∀ k : Nat, k ≤ o + b.len + 1 → ∀ M', tmA l (k : Int) (pcs (o + b.len + 1) r.flat) M' = M' := fun k hk M' => tmA_none l _ _ _ (fun p hp => by
   have := ar_in h6 (by omega) p hp
   rw [← Bool.not_eq_true, has_iff]; omega)
  have hd : ∀ k : Nat, tmA l (k : Int) [arOf o x] M = if o < k ∧ k ≤ o + b.len then M * repOf x else M := fun k => by
   rw [tmA, tmA]
   have e4 : (arOf o x).2.2.1 = (o : Int) := rfl
   have e5 : (arOf o x).2.2.2 = (x.1 == 8) := rfl
   rw [e4, rd_nat, a2, e5]
   unfold repOf
   by_cases h8 : x.1 = 8
   ·rw [if_pos h8, show (x.1 == 8) = true by rw [h8]; rfl, Bool.true_and]
    by_cases e : o < k ∧ k ≤ o + b.len
    ·rw [if_pos e, show hasA (arOf o x) (k : Int) = true by rw [has_iff]; simp only [arOf]; omega]; rfl
    ·rw [if_neg e, show hasA (arOf o x) (k : Int) = false by rw [← Bool.not_eq_true, has_iff]; simp only [arOf]; omega]; rfl
   ·rw [if_neg h8, show (x.1 == 8) = false by simpa using h8, Bool.false_and, Int.mul_one]; simp
  rw [pcs_ar h1 h2 (by omega), show ∀ a : Ar, ∀ l, a :: l = [a] ++ l from fun _ _ => rfl, tmA_app, tmA_app, hd, Tr.ts]
  cases j with
  | zero => rw [List.getD_cons_zero, if_neg (by omega), nb _ (by omega), nr _ (by omega)]
  | succ j =>
   rw [List.getD_cons_succ]
   by_cases e : j < b.len
   ·rw [getD_app_l (by rw [ts_len]; exact e), if_pos (by omega), nr _ (by omega), ← tmA_tree _ h5 a4 (by omega) j e]
    congr 2; omega
   ·rw [getD_app_r (by rw [ts_len]; omega), ts_len, if_neg (by omega), nb _ (by omega), ← tmA_tree M h6 a5 (by omega) (j - b.len) (by omega)]
    congr 2; omega
theorem tms_tree {t : Tr} (h : Ok 0 [] false t) (hl : t.len < 24) : tms t.prog = t.ts 1 ++ [1] := by
 have hpl := prog_len t
 apply List.ext_getElem (by rw [tms_len, List.length_append, ts_len]; simp; omega)
 intro n h1 h2
 rw [tms_len] at h1
 rw [← getD_in (z := 0) (by rw [tms_len]; exact h1), ← getD_in (z := 0) h2, tms_get h1, prog_pcs (by omega)]
 by_cases e : n < t.len
 ·rw [getD_app_l (by rw [ts_len]; exact e), ← tmA_tree (o := 0) 1 h (prog_at t) (by omega) n e, Nat.zero_add]
 ·have : n = t.len := by omega
  subst this
  rw [getD_app_r (by rw [ts_len]; omega), ts_len, Nat.sub_self]
  exact tmA_none _ _ _ _ (fun p hp => by
   have := ar_in (o := 0) h (by omega) p hp
   rw [← Bool.not_eq_true, has_iff]; omega)
def psOk (ps : List Int) : Tr → Nat → Prop
 | .nil, _ => True
 | .one _ r, o => psOk ps r (o + 1)
 | .lk _ b r, o => ps.getD o 0 = ((o + b.len + 1 : Nat) : Int) ∧ psOk ps b (o + 1) ∧ psOk ps r (o + b.len + 2)
 | .ar _ b r, o => psOk ps b (o + 1) ∧ psOk ps r (o + b.len + 1)
theorem psOk_congr {ps qs : List Int} : ∀ (t : Tr) (o : Nat), (∀ k, o ≤ k → k < o + t.len → ps.getD k 0 = qs.getD k 0) → psOk ps t o → psOk qs t o
 | .nil, _, _, _ => trivial
 | .one _ r, o, h, hp => psOk_congr r (o + 1) (fun k h1 h2 => h k (by omega) (by simp only [Tr.len]; omega)) hp
 | .lk _ b r, o, h, ⟨h1, h2, h3⟩ => ⟨by rw [← h o (by omega) (by simp only [Tr.len]; omega)]; exact h1, psOk_congr b (o + 1) (fun k g1 g2 => h k (by omega) (by simp only [Tr.len]; omega)) h2, psOk_congr r (o + b.len + 2) (fun k g1 g2 => h k (by omega) (by simp only [Tr.len]; omega)) h3⟩
 | .ar _ b r, o, h, ⟨h2, h3⟩ => ⟨psOk_congr b (o + 1) (fun k g1 g2 => h k (by omega) (by simp only [Tr.len]; omega)) h2, psOk_congr r (o + b.len + 1) (fun k g1 g2 => h k (by omega) (by simp only [Tr.len]; omega)) h3⟩
theorem psOk_prT : ∀ (t : Tr) (o : Nat) (out : List Int), o + t.len ≤ out.length → psOk (prT t o out) t o
 | .nil, _, _, _ => trivial
 | .one _ r, o, out, h => psOk_prT r (o + 1) out (by simp only [Tr.len] at h; omega)
 | .lk a b r, o, out, h => by
  simp only [Tr.len] at h
  rw [prT]
  have hb := prT_len b (o + 1) out
  refine ⟨?_, ?_, psOk_prT r _ _ (by rw [List.length_set]; omega)⟩
  ·rw [prT_out r _ _ o (by omega), set_get, if_pos ⟨rfl, by omega⟩]
  ·refine psOk_congr b (o + 1) (fun k h1 h2 => ?_) (psOk_prT b (o + 1) out (by omega))
   rw [prT_out r _ _ k (by omega), set_get, if_neg (by omega)]
 | .ar x b r, o, out, h => by
  simp only [Tr.len] at h
  rw [prT]
  have hb := prT_len b (o + 1) out
  refine ⟨?_, psOk_prT r _ _ (by omega)⟩
  refine psOk_congr b (o + 1) (fun k h1 h2 => ?_) (psOk_prT b (o + 1) out (by omega))
  rw [prT_out r _ _ k (by omega)]
def AtI (l : List Int) (o : Nat) (w : List Int) : Prop := o + w.length ≤ l.length ∧ ∀ j, j < w.length → l.getD (o + j) 0 = w.getD j 0
theorem AtI_cons {l : List Int} {o : Nat} {x : Int} {w : List Int} (h : AtI l o (x :: w)) : o < l.length ∧ l.getD o 0 = x ∧ AtI l (o + 1) w := by
 obtain ⟨h1, h2⟩ := h
 simp only [List.length_cons] at h1 h2
 refine ⟨by omega, by simpa using h2 0 (by omega), by omega, fun j hj => ?_⟩
 have := h2 (j + 1) (by omega)
 rw [List.getD_cons_succ] at this
 rw [← this]; congr 1; omega
theorem AtI_app {l : List Int} {o : Nat} {u w : List Int} (h : AtI l o (u ++ w)) : AtI l o u ∧ AtI l (o + u.length) w := by
 obtain ⟨h1, h2⟩ := h
 simp only [List.length_append] at h1 h2
 refine ⟨⟨by omega, fun j hj => ?_⟩, by omega, fun j hj => ?_⟩
 ·rw [h2 j (by omega), getD_app_l hj]
 ·rw [show o + u.length + j = o + (u.length + j) by omega, h2 _ (by omega), getD_app_r (by omega)]
  congr 1; omega
theorem AtI_sub {l w : List Int} {o : Nat} (h : AtI l o w) : sub l (o : Int) ((o + w.length : Nat) : Int) = w := by
 obtain ⟨h1, h2⟩ := h
 simp only [sub, Int.toNat_natCast]
 apply List.ext_getElem (by rw [List.length_drop, List.length_take]; omega)
 intro n g1 g2
 rw [List.getElem_drop, List.getElem_take]
 have := h2 n g2
 rw [getD_in (by omega), getD_in g2] at this
 exact this
theorem cg_tree : ∀ {t : Tr} {d : Nat} {hs : List Int} {ia : Bool} {l : List I4} {ts ps : List Int} {o : Nat} {M : Int} (m : Nat) (c1 p : Int) (c2 : List (Int × Int)), Ok d hs ia t → At l o t.flat → AtI ts o (t.ts M) → psOk ps t o → 1 ≤ M →
  cg l ts ps (t.len + m) o c1 c2 p = cg l ts ps m (o + t.len) (t.piece M (c1, p)).1 (c2 ++ t.spans) (t.piece M (c1, p)).2
 | .nil, _, _, _, _, _, _, _, _, m, c1, p, c2, _, _, _, _, _ => by simp only [Tr.len, Nat.zero_add, Nat.add_zero, Tr.piece, Tr.spans, List.append_nil]
 | .one x r, _, _, _, l, ts, ps, o, M, m, c1, p, c2, ⟨h1, h2, _, h4⟩, ha, ht, hp, hM => by
  simp only [Tr.len, Tr.ts] at ht ⊢
  obtain ⟨a1, a2, a3⟩ := At_cons ha
  obtain ⟨t1, t2, t3⟩ := AtI_cons ht
  rw [show r.len + 1 + m = (r.len + m) + 1 by omega, cg, a2, t2, Tr.spans, Tr.piece]
  by_cases e : x.1 = 11
  ·rw [if_pos (.inl e), if_pos e, cg_tree m _ _ _ h4 a3 t3 hp hM]
   congr 1; omega
  ·rw [if_neg (by rintro (q | q); exact e q; exact h2.1 q), if_neg h2.2.2.2.1, if_neg e, cg_tree m _ _ _ h4 a3 t3 hp hM]
   congr 1; omega
 | .lk a b r, _, _, _, l, ts, ps, o, M, m, c1, p, c2, ⟨h1, _, h3, h4⟩, ha, ht, ⟨p1, p2, p3⟩, hM => by
  simp only [Tr.len, Tr.ts] at ht ⊢
  obtain ⟨a1, a2, a3⟩ := At_cons ha
  obtain ⟨a4, a5⟩ := At_app a3
  obtain ⟨a6, a7, a8⟩ := At_cons a5
  obtain ⟨t1, t2, t3⟩ := AtI_cons ht
  obtain ⟨t4, t5⟩ := AtI_app t3
  obtain ⟨t6, t7, t8⟩ := AtI_cons t5
  rw [flat_len] at a6 a7 a8
  rw [ts_len] at t6 t7 t8
  have hsub : sub ts ((o + 1 : Nat) : Int) (ps.getD o 0 + 1) = b.ts M ++ [M] := by
   have : AtI ts (o + 1) (b.ts M ++ [M]) := by
    obtain ⟨q1, q2⟩ := t3
    refine ⟨by simp only [List.length_append, List.length_cons, List.length_nil] at q1 ⊢; omega, fun j hj => ?_⟩
    simp only [List.length_append, List.length_cons, List.length_nil] at hj
    rw [q2 j (by simp only [List.length_append, List.length_cons]; omega)]
    by_cases e : j < (b.ts M).length
    ·rw [getD_app_l e, getD_app_l e]
    ·rw [getD_app_r (by omega), getD_app_r (by omega), show j - (b.ts M).length = 0 by omega]; rfl
   have h := AtI_sub this
   rw [List.length_append, ts_len] at h
   rw [p1, ← h]
   congr 1
   simp only [List.length_cons, List.length_nil]; omega
  have hc := cost_nonneg h3
  have hdiv : Int.tdiv (M * b.cost + M) M = b.cost + 1 := by
   rw [show M * b.cost + M = M * (b.cost + 1) by grind, Int.mul_tdiv_cancel_left _ (by omega)]
  rw [show b.len + r.len + 2 + m = (b.len + (r.len + m + 1)) + 1 by omega, cg, a2, t2, if_neg (by simp), if_pos rfl, hsub, sm_app, ts_sum, sm, sm, Int.add_zero, hdiv]
  rw [cg_tree (r.len + m + 1) _ _ _ h3 a4 t4 p2 hM, cg, a7, t7, if_neg (by simp), if_neg (by simp)]
  rw [show o + 1 + b.len + 1 = o + b.len + 2 by omega] at a8 t8 ⊢
  rw [cg_tree m _ _ _ h4 a8 t8 p3 hM, Tr.spans, Tr.piece]
  congr 1
  ·omega
  ·simp only [List.append_assoc, List.cons_append, List.nil_append]
 | .ar x b r, _, _, _, l, ts, ps, o, M, m, c1, p, c2, ⟨⟨h1, h2, h3⟩, _, h5, h6⟩, ha, ht, ⟨p2, p3⟩, hM => by
  simp only [Tr.len, Tr.ts] at ht ⊢
  obtain ⟨a1, a2, a3⟩ := At_cons ha
  obtain ⟨a4, a5⟩ := At_app a3
  obtain ⟨t1, t2, t3⟩ := AtI_cons ht
  obtain ⟨t4, t5⟩ := AtI_app t3
  rw [flat_len, show o + 1 + b.len = o + b.len + 1 by omega] at a5
  rw [ts_len, show o + 1 + b.len = o + b.len + 1 by omega] at t5
  have e11 : ¬ (x.1 = 11 ∨ x.1 = 0) := by rintro (e | e) <;> simp [isA, e] at h2
  have e9 : x.1 ≠ 9 := by intro e; simp [isA, e] at h2
  have hM2 : 1 * 1 ≤ M * repOf x := Int.mul_le_mul hM (repOf_may h1).1 (by omega) (by omega)
  rw [show b.len + r.len + 1 + m = (b.len + (r.len + m)) + 1 by omega, cg, a2, t2, if_neg e11, if_neg e9, cg_tree (r.len + m) _ _ _ h5 a4 t4 p2 (by omega)]
  rw [show o + 1 + b.len = o + b.len + 1 by omega, cg_tree m _ _ _ h6 a5 t5 p3 hM, Tr.spans, Tr.piece]
  congr 1
  ·omega
  ·rw [List.append_assoc]
theorem cost_tree {t : Tr} (h : Ok 0 [] false t) (hl : t.len < 24) : costOf t.prog = some (t.cost + 1, max (t.piece 1 (0, 0)).1 ((t.piece 1 (0, 0)).2 + 1), t.spans) := by
 have g := good_tree h hl
 have ht := tms_tree h hl
 rw [costOf_good g]
 unfold costR
 have hA : AtI (tms t.prog) 0 (t.ts 1) := by
  rw [ht]
  exact ⟨by rw [List.length_append]; omega, fun j hj => by rw [Nat.zero_add, getD_app_l hj]⟩
 have h1 := cg_tree (ts := tms t.prog) (ps := prT t 0 (List.replicate (t.len + 1) 0)) (o := 0) (M := 1) 1 0 0 [] h (prog_at t) hA (psOk_prT t 0 _ (by simp)) (by omega)
 rw [prog_len, h1, Nat.zero_add, cg, prog_end, if_pos (.inr rfl), cg, List.nil_append]
 have h2 : sm (tms t.prog) = t.cost + 1 := by rw [ht, sm_app, ts_sum, sm, sm]; omega
 have h3 : (tms t.prog).getD t.len 0 = 1 := by
  rw [ht, getD_app_r (by rw [ts_len]; omega), ts_len, Nat.sub_self]; rfl
 rw [h2, h3]
end Go.Proofs.YteflacbgobpmcaaGreat.Ab

/- The pieces of a tree: how they change. -/
namespace Go.Proofs.YteflacbgobpmcaaGreat.Ab
open Go.RowKit Tr
set_option linter.unusedSimpArgs false
set_option linter.unusedVariables false
theorem piece_bound : ∀ {t : Tr} {d : Nat} {hs : List Int} {ia : Bool} (M : Int) (s : Int × Int), Ok d hs ia t → 1 ≤ M → 0 ≤ s.1 → 0 ≤ s.2 → 0 ≤ (t.piece M s).1 ∧ 0 ≤ (t.piece M s).2 ∧ (t.piece M s).1 ≤ max s.1 (s.2 + M * t.cost) ∧ (t.piece M s).2 ≤ s.2 + M * t.cost
 | .nil, _, _, _, M, s, _, _, h1, h2 => by simp only [Tr.piece, Tr.cost, Int.mul_zero]; omega
 | .one x r, _, _, _, M, s, ⟨_, _, _, h4⟩, hM, h1, h2 => by
  have hc := Int.mul_nonneg (show 0 ≤ M by omega) (cost_nonneg h4)
  rw [Tr.piece, Tr.cost, Int.mul_add, Int.mul_one]
  split
  ·have := piece_bound (t := r) M (max s.1 (s.2 + M), 0) h4 hM (by simp only; omega) (by simp only; omega)
   simp only at this
   omega
  ·have := piece_bound (t := r) M (s.1, s.2 + M) h4 hM h1 (by simp only; omega)
   simp only at this
   omega
 | .lk a b r, _, _, _, M, s, ⟨_, _, h3, h4⟩, hM, h1, h2 => by
  have hc := Int.mul_nonneg (show 0 ≤ M by omega) (cost_nonneg h4)
  have hcb := Int.mul_nonneg (show 0 ≤ M by omega) (cost_nonneg h3)
  rw [Tr.piece, Tr.cost, show M * (2 + b.cost + r.cost) = M + M + M * b.cost + M * r.cost by grind]
  have q := piece_bound (t := b) M (s.1, s.2 + M) h3 hM h1 (by simp only; omega)
  simp only at q
  have := piece_bound (t := r) M ((b.piece M (s.1, s.2 + M)).1, (b.piece M (s.1, s.2 + M)).2 + M) h4 hM q.1 (by simp only; omega)
  simp only at this
  omega
 | .ar x b r, _, _, _, M, s, ⟨hx, _, h3, h4⟩, hM, h1, h2 => by
  have hr := repOf_may hx.1
  have hM2 : 1 * 1 ≤ M * repOf x := Int.mul_le_mul hM hr.1 (by omega) (by omega)
  have hc := Int.mul_nonneg (show 0 ≤ M by omega) (cost_nonneg h4)
  have hcb := Int.mul_nonneg (show 0 ≤ M * repOf x by omega) (cost_nonneg h3)
  rw [Tr.piece, Tr.cost, show M * (1 + repOf x * b.cost + r.cost) = M + M * repOf x * b.cost + M * r.cost by grind]
  have q := piece_bound (t := b) (M * repOf x) (s.1, s.2 + M) h3 (by omega) h1 (by simp only; omega)
  simp only at q
  have := piece_bound (t := r) M (b.piece (M * repOf x) (s.1, s.2 + M)) h4 hM q.1 q.2.1
  omega
theorem cost_small {t : Tr} (h : Ok 0 [] false t) (hl : t.len < 24) : 0 ≤ t.cost ∧ t.cost + 1 ≤ 9600 := by
 have g := good_tree h hl
 have hs := sm_sub g ((0 : Nat) : Int) ((tms t.prog).length : Int)
 rw [sub_all, tms_tree h hl, sm_app, ts_sum, sm, sm] at hs
 have := cost_nonneg h
 omega
end Go.Proofs.YteflacbgobpmcaaGreat.Ab

/- A program that may be is the program of a tree. -/
namespace Go.Proofs.YteflacbgobpmcaaGreat.Ab
open Go.RowKit Tr
set_option linter.unusedSimpArgs false
set_option linter.unusedVariables false
theorem prGo_split {l : List I4} : ∀ (a b i : Nat) (s : List Int × List Int), prGo l (a + b) i s = (prGo l a i s).bind (prGo l b (i + a))
 | 0, b, i, s => by rw [Nat.zero_add, prGo]; rfl
 | a + 1, b, i, s => by
  rw [show a + 1 + b = (a + b) + 1 by omega, prGo, prGo]
  cases h : prStep l i s with
  | none => rfl
  | some t => rw [Option.bind_some, Option.bind_some, prGo_split a b (i + 1) t, show i + 1 + a = i + (a + 1) by omega]
theorem prStep_keep {l : List I4} {i : Nat} {s s' : List Int × List Int} (hi : PrI l i s.1 s.2) (h : prStep l i s = some s') : ∀ k : Nat, k < i → isOp l 9 k → (k : Int) ∉ s.2 → s'.1.getD k 0 = s.1.getD k 0 ∧ (k : Int) ∉ s'.2 := by
 intro k hk h9 ho
 unfold prStep at h
 split at h
 ·split at h
  ·cases h
  ·injection h with h; subst h
   refine ⟨rfl, fun h2 => ?_⟩
   rcases List.mem_append.1 h2 with h2 | h2
   ·exact ho h2
   ·have := List.mem_singleton.1 h2; omega
 ·split at h
  ·split at h
   ·cases h
   ·rename_i x hx
    split at h
    ·cases h
    ·injection h with h; subst h
     have hxm := List.mem_of_getLast? hx
     have := hi.small x hxm
     obtain ⟨n, rfl⟩ : ∃ n : Nat, x = (n : Int) := ⟨x.toNat, by omega⟩
     refine ⟨?_, fun h2 => ho ((List.dropLast_sublist _).subset h2)⟩
     show (upd s.1 (n : Int) (i : Int)).getD k 0 = _
     rw [upd_nat, set_get, if_neg]
     rintro ⟨rfl, _⟩
     exact ho hxm
  ·injection h with h; subst h; exact ⟨rfl, ho⟩
theorem prGo_keep {l : List I4} : ∀ (m i : Nat) (s s' : List Int × List Int), i + m ≤ l.length → PrI l i s.1 s.2 → prGo l m i s = some s' → ∀ k : Nat, k < i → isOp l 9 k → (k : Int) ∉ s.2 → s'.1.getD k 0 = s.1.getD k 0
 | 0, i, s, s', _, _, h, k, _, _, _ => by injection h with h; subst h; rfl
 | m + 1, i, s, s', hm, hi, h, k, hk, h9, ho => by
  rw [prGo, Option.bind_eq_some_iff] at h
  obtain ⟨t, h1, h2⟩ := h
  have := prStep_keep hi h1 k hk h9 ho
  rw [prGo_keep m (i + 1) t s' (by omega) (prI_step (by omega) hi h1) h2 k (by omega) h9 this.2, this.1]
theorem pr_at {l : List I4} {ps : List Int} (h : prs l = some ps) {n : Nat} (hn : n ≤ l.length) : ∃ s : List Int × List Int, PrI l n s.1 s.2 ∧ prGo l (l.length - n) n s = some (ps, []) ∧ ∀ k, k < n → isOp l 9 k → ((k : Int) ∈ s.2 ↔ (n : Int) ≤ ps.getD k 0) := by
 have hg := prs_go h
 have h0 : PrI l 0 (List.replicate l.length 0) [] := ⟨by simp, List.Pairwise.nil, (fun _ h => by cases h), (fun _ h => by cases h), fun _ h => by omega, fun _ _ _ h => by omega, fun _ _ _ h => by omega, rfl⟩
 rw [show l.length = n + (l.length - n) by omega, prGo_split, Nat.zero_add, Option.bind_eq_some_iff] at hg
 obtain ⟨s, h1, h2⟩ := hg
 have hinv : ∀ (m i : Nat) (s s' : List Int × List Int), i + m ≤ l.length → PrI l i s.1 s.2 → prGo l m i s = some s' → PrI l (i + m) s'.1 s'.2 := by
  intro m
  induction m with
  | zero => intro i s s' _ hi h; injection h with h; subst h; exact hi
  | succ m ih =>
   intro i s s' hm hi h
   rw [prGo, Option.bind_eq_some_iff] at h
   obtain ⟨t, h1, h2⟩ := h
   have := ih (i + 1) t s' (by omega) (prI_step (by omega) hi h1) h2
   rw [show i + (m + 1) = i + 1 + m by omega]; exact this
 have hln : n + (l.length - n) = l.length := by omega
 rw [hln] at h1
 have hs := hinv n 0 _ s (by omega) h0 h1
 rw [Nat.zero_add] at hs
 refine ⟨s, hs, h2, fun k hk h9 => ?_⟩
 constructor
 ·intro ho
  -- it is closed behind
  have hfin := prI_prs h
  obtain ⟨u, g1, g2, g3, _⟩ := hfin.closed k (by omega) h9 (by simp)
  rw [g1]
  have key : ∀ (m i : Nat) (s s' : List Int × List Int), i + m ≤ l.length → PrI l i s.1 s.2 → prGo l m i s = some s' → (k : Int) ∈ s.2 → (k : Int) ∈ s'.2 ∨ (i : Int) ≤ s'.1.getD k 0 := by
   intro m
   induction m with
   | zero => intro i s s' _ _ h ho; injection h with h; subst h; exact .inl ho
   | succ m ih =>
    intro i s s' hm hi h ho
    rw [prGo, Option.bind_eq_some_iff] at h
    obtain ⟨t, h1, h2⟩ := h
    have hi' := prI_step (by omega) hi h1
    by_cases e : (k : Int) ∈ t.2
    ·rcases ih (i + 1) t s' (by omega) hi' h2 e with q | q
     ·exact .inl q
     ·exact .inr (by omega)
    ·right
     have hkl := hi.small _ ho
     rw [prGo_keep m (i + 1) t s' (by omega) hi' h2 k (by omega) h9 e]
     -- it was closed at i
     unfold prStep at h1
     split at h1
     ·split at h1
      ·cases h1
      ·injection h1 with h1; subst h1
       exact absurd (List.mem_append_left _ ho) e
     ·split at h1
      ·split at h1
       ·cases h1
       ·rename_i x hx
        split at h1
        ·cases h1
        ·injection h1 with h1; subst h1
         have hxm := hi.small x (List.mem_of_getLast? hx)
         obtain ⟨n', rfl⟩ : ∃ n' : Nat, x = (n' : Int) := ⟨x.toNat, by omega⟩
         have hlen := hi.len
         show (i : Int) ≤ (upd s.1 (n' : Int) (i : Int)).getD k 0
         have hkn : n' = k := by
          by_cases hq : n' = k
          ·exact hq
          ·exfalso; apply e
           obtain ⟨r, hr⟩ : ∃ r, s.2 = r ++ [(n' : Int)] := by
            rcases List.eq_nil_or_concat s.2 with e | ⟨r, y, e⟩
            ·rw [e] at hx; cases hx
            ·rw [List.concat_eq_append] at e
             rw [e] at hx; simp at hx; subst hx; exact ⟨r, e⟩
           show (k : Int) ∈ s.2.dropLast
           rw [hr] at ho ⊢
           rw [List.dropLast_concat]
           rcases List.mem_append.1 ho with h | h
           ·exact h
           ·have := List.mem_singleton.1 h; omega
         rw [upd_nat, set_get, if_pos ⟨hkn, by omega⟩]; omega
      ·injection h1 with h1; subst h1; exact absurd ho e
  rcases key (l.length - n) n s (ps, []) (by omega) hs h2 ho with q | q
  ·cases q
  ·simp only at q; omega
 ·intro hge
  by_cases ho : (k : Int) ∈ s.2
  ·exact ho
  ·obtain ⟨u, g1, g2, g3, _⟩ := hs.closed k hk h9 ho
   have := prGo_keep (l.length - n) n s (ps, []) (by omega) hs h2 k hk h9 ho
   simp only at this
   omega
structure Prs (l : List I4) (ps : List Int) : Prop where
 lock : ∀ n, n < l.length → isOp l 9 n → ∃ u : Nat, ps.getD n 0 = (u : Int) ∧ n < u ∧ u < l.length ∧ isOp l 10 u ∧ semOf l u = semOf l n
 nest : ∀ k j, k < j → j < l.length → isOp l 9 k → isOp l 9 j → (j : Int) < ps.getD k 0 → ps.getD j 0 < ps.getD k 0 ∧ semOf l k ≠ semOf l j
 two : ∀ a b n, a < b → b < n → n < l.length → isOp l 9 a → isOp l 9 b → isOp l 9 n → (n : Int) < ps.getD a 0 → (n : Int) < ps.getD b 0 → False
 unlock : ∀ u, u < l.length → isOp l 10 u → ∃ n, n < u ∧ isOp l 9 n ∧ ps.getD n 0 = (u : Int)
 area : ∀ n, n < l.length → isOp l 9 n → ∀ u : Nat, ps.getD n 0 = (u : Int) → sepA l n u = false
theorem prs_facts {l : List I4} {ps : List Int} (h : prs l = some ps) : Prs l ps := by
 have hf := prI_prs h
 have stepAt : ∀ n, n < l.length → ∃ s t : List Int × List Int, PrI l n s.1 s.2 ∧ prStep l n s = some t ∧ PrI l (n + 1) t.1 t.2 ∧ prGo l (l.length - (n + 1)) (n + 1) t = some (ps, []) ∧ ∀ k, k < n → isOp l 9 k → ((k : Int) ∈ s.2 ↔ (n : Int) ≤ ps.getD k 0) := fun n hn => by
  obtain ⟨s, h1, h2, h3⟩ := pr_at h (n := n) (by omega)
  rw [show l.length - n = (l.length - (n + 1)) + 1 by omega, prGo, Option.bind_eq_some_iff] at h2
  obtain ⟨t, h4, h5⟩ := h2
  exact ⟨s, t, h1, h4, prI_step hn h1 h4, h5, h3⟩
 have unl : ∀ u, u < l.length → isOp l 10 u → ∃ n, n < u ∧ isOp l 9 n ∧ ps.getD n 0 = (u : Int) ∧ sepA l n u = false := fun u hu h10 => by
  obtain ⟨s, t, h1, h2, h3, h4, h5⟩ := stepAt u hu
  have h10' : (l.getD u i0).1 = 10 := h10
  unfold prStep at h2
  rw [if_neg (by rw [h10']; decide), if_pos h10'] at h2
  split at h2
  ·cases h2
  ·rename_i x hx
   split at h2
   ·cases h2
   ·rename_i hc
    injection h2 with h2; subst h2
    have hxm := List.mem_of_getLast? hx
    have hsm := h1.small x hxm
    obtain ⟨n, rfl⟩ : ∃ n : Nat, x = (n : Int) := ⟨x.toNat, by omega⟩
    have hl := h1.lock n hxm
    have hlen := h1.len
    refine ⟨n, by omega, hl, ?_, ?_⟩
    ·have hno : (n : Int) ∉ s.2.dropLast := by
      have hsort := h1.sorted
      obtain ⟨r, hr⟩ : ∃ r, s.2 = r ++ [(n : Int)] := by
       rcases List.eq_nil_or_concat s.2 with e | ⟨r, y, e⟩
       ·rw [e] at hx; cases hx
       ·rw [List.concat_eq_append] at e
        rw [e] at hx; simp at hx; subst hx; exact ⟨r, e⟩
      rw [hr, List.pairwise_append] at hsort
      rw [hr, List.dropLast_concat]
      intro e
      have := hsort.2.2 _ e (n : Int) (by simp); omega
     have := prGo_keep (l.length - (u + 1)) (u + 1) (upd s.1 (n : Int) (u : Int), s.2.dropLast) (ps, []) (by omega) h3 h4 n (by omega) hl hno
     simp only at this
     rw [this, upd_nat, set_get, if_pos ⟨rfl, by omega⟩]
    ·cases hs : sepA l n u with
     | false => rfl
     | true => exact absurd (.inr (by rw [Int.toNat_natCast]; exact hs)) hc
 refine ⟨fun n hn h9 => ?_, fun k j hkj hj h1 h2 h3 => ?_, fun a b n hab hbn hn h1 h2 h3 h4 h5 => ?_, fun u hu h10 => ?_, fun n hn h9 u hu => ?_⟩
 ·exact hf.closed n hn h9 (by simp)
 ·obtain ⟨_, q2, q3⟩ := hf.nest k j hkj hj h1 h2 (by simp) h3
  exact ⟨q2, q3⟩
 ·obtain ⟨s, t, g1, g2, _, _, g5⟩ := stepAt n hn
  have ha := (g5 a (by omega) h1).2 (by omega)
  have hb := (g5 b hbn h2).2 (by omega)
  have h9 : (l.getD n i0).1 = 9 := h3
  unfold prStep at g2
  rw [if_pos h9] at g2
  split at g2
  ·cases g2
  ·rename_i hc
   have hlt : s.2.length < 2 := by
    by_cases e : s.2.length < 2
    ·exact e
    ·exact absurd (.inl (by omega)) hc
   match hs : s.2, ha, hb, hlt with
   | [], ha, _, _ => cases ha
   | [y], ha, hb, _ =>
    have e1 := List.mem_singleton.1 ha
    have e2 := List.mem_singleton.1 hb
    omega
   | y :: z :: r, _, _, hlt => simp only [List.length_cons] at hlt; omega
 ·obtain ⟨n, q1, q2, q3, _⟩ := unl u hu h10
  exact ⟨n, q1, q2, q3⟩
 ·obtain ⟨u', g1, g2, g3, g4, _⟩ := hf.closed n hn h9 (by simp)
  have : u' = u := by omega
  subst this
  obtain ⟨n', q1, q2, q3, q4⟩ := unl u' g3 g4
  by_cases e : n' = n
  ·subst e; exact q4
  ·exfalso
   by_cases lt : n' < n
   ·have := (hf.nest n' n lt hn q2 h9 (by simp) (by omega)).2.1; omega
   ·have := (hf.nest n n' (by omega) (by omega) h9 q2 (by simp) (by omega)).2.1; omega
theorem three_bodies {l : List I4} (hm : ∀ x ∈ l, mayI x = true) (hl : l.length ≤ 900) {a b c : Nat} {j : Int} (hab : a < b) (hbc : b < c) (hc : c < l.length) (h : ∀ n, n = a ∨ n = b ∨ n = c → (l.getD n i0).1 = 8 ∧ (n : Int) < j ∧ j ≤ n + wd (l.getD n i0)) : 3 ≤ cB j (pcs 0 l) := by
 have one : ∀ n, n = a ∨ n = b ∨ n = c → cB j (pc n (l.getD n i0)) = 1 := fun n hn => by
  obtain ⟨h8, h1, h2⟩ := h n hn
  have hlt : n < l.length := by omega
  have hA : isA (l.getD n i0) = true := by simp only [isA, h8]; rfl
  rw [pc_may (hm _ (getD_mem hlt)) (by omega), if_pos hA, cB, List.countP_cons, List.countP_nil]
  have e3 : (arOf n (l.getD n i0)).2.2.2 = true := by simp only [arOf, h8]; rfl
  rw [e3, show hasA (arOf n (l.getD n i0)) j = true by rw [has_iff]; simp only [arOf]; omega]; rfl
 have up : ∀ n, n < l.length → cB j (pcs 0 (l.take (n + 1))) = cB j (pcs 0 (l.take n)) + cB j (pc n (l.getD n i0)) := fun n hn => by
  have : l.take (n + 1) = l.take n ++ [l.getD n i0] := by rw [List.take_add_one, getD_in hn, List.getElem?_eq_getElem hn]; rfl
  rw [this, pcs_app, cB_app, List.length_take, Nat.zero_add, show min n l.length = n by omega]
  simp [pcs]
 have mono : ∀ d n, n + d ≤ l.length → cB j (pcs 0 (l.take n)) ≤ cB j (pcs 0 (l.take (n + d))) := fun d => by
  induction d with
  | zero => intro n _; simp
  | succ d ih => intro n hn; have := ih n (by omega); rw [show n + (d + 1) = n + d + 1 by omega, up (n + d) (by omega)]; omega
 have h1 := up a (by omega)
 have h2 := up b (by omega)
 have h3 := up c (by omega)
 rw [one a (.inl rfl)] at h1
 rw [one b (.inr (.inl rfl))] at h2
 rw [one c (.inr (.inr rfl))] at h3
 have m1 := mono (b - (a + 1)) (a + 1) (by omega)
 have m2 := mono (c - (b + 1)) (b + 1) (by omega)
 have m3 := mono (l.length - (c + 1)) (c + 1) (by omega)
 rw [show a + 1 + (b - (a + 1)) = b by omega] at m1
 rw [show b + 1 + (c - (b + 1)) = c by omega] at m2
 rw [show c + 1 + (l.length - (c + 1)) = l.length by omega, List.take_length] at m3
 omega
def Bd (l : List I4) (o e : Nat) : Nat → Prop
 | 0 => True
 | 1 => ∃ a, a < o ∧ isOp l 8 a ∧ e ≤ a + wd (l.getD a i0) + 1
 | 2 => ∃ a b, a < b ∧ b < o ∧ isOp l 8 a ∧ isOp l 8 b ∧ e ≤ a + wd (l.getD a i0) + 1 ∧ e ≤ b + wd (l.getD b i0) + 1
 | _ + 3 => False
def Hd (l : List I4) (ps : List Int) (o e : Nat) (hs : List Int) : Prop := ∃ H : List Nat, hs = H.map (semOf l) ∧ H.Pairwise (· < ·) ∧ ∀ k ∈ H, k < o ∧ isOp l 9 k ∧ (e : Int) ≤ ps.getD k 0
theorem Bd_sub {l : List I4} {o e o' e' : Nat} (ho : o ≤ o') (he : e' ≤ e) : ∀ {d : Nat}, Bd l o e d → Bd l o' e' d
 | 0, _ => trivial
 | 1, ⟨a, h1, h2, h3⟩ => ⟨a, by omega, h2, by omega⟩
 | 2, ⟨a, b, h1, h2, h3, h4, h5, h6⟩ => ⟨a, b, h1, by omega, h3, h4, by omega, by omega⟩
 | _ + 3, h => h.elim
theorem Hd_sub {l : List I4} {ps : List Int} {o e o' e' : Nat} {hs : List Int} (ho : o ≤ o') (he : e' ≤ e) (h : Hd l ps o e hs) : Hd l ps o' e' hs := by
 obtain ⟨H, h1, h2, h3⟩ := h
 exact ⟨H, h1, h2, fun k hk => by obtain ⟨q1, q2, q3⟩ := h3 k hk; exact ⟨by omega, q2, by omega⟩⟩
theorem At_one {l : List I4} {o : Nat} {x : I4} {w : List I4} (hx : l.getD o i0 = x) (hl : o < l.length) (h : At l (o + 1) w) : At l o (x :: w) := by
 obtain ⟨h1, h2⟩ := h
 refine ⟨by simp only [List.length_cons]; omega, fun j hj => ?_⟩
 cases j with
 | zero => simpa using hx
 | succ j =>
  simp only [List.length_cons] at hj
  rw [List.getD_cons_succ, ← h2 j (by omega)]; congr 1; omega
theorem At_two {l : List I4} {o : Nat} {u w : List I4} (h1 : At l o u) (h2 : At l (o + u.length) w) : At l o (u ++ w) := by
 obtain ⟨a1, a2⟩ := h1
 obtain ⟨b1, b2⟩ := h2
 refine ⟨by simp only [List.length_append]; omega, fun j hj => ?_⟩
 simp only [List.length_append] at hj
 by_cases e : j < u.length
 ·rw [getD_app_l e, a2 j e]
 ·rw [getD_app_r (by omega), ← b2 (j - u.length) (by omega)]; congr 1; omega
theorem op_cases {x : I4} (h : mayI x = true) : x.1 = 0 ∨ x.1 = 7 ∨ x.1 = 8 ∨ x.1 = 9 ∨ x.1 = 10 ∨ plain x := by unfold plain; omega
theorem may9 {x : I4} (h : mayI x = true) (e : x.1 = 9 ∨ x.1 = 10) : (0 ≤ x.2.1 ∧ x.2.1 ≤ 3) ∧ x.2.2.1 = 0 ∧ x.2.2.2 = 0 := by
 rcases e with e | e <;> simpa [mayI, e, witI] using h
theorem parse {l : List I4} {ps : List Int} (g : GoodA l ps) (P : Prs l ps) : ∀ (len o d : Nat) (hs : List Int) (ia : Bool), o + len < l.length → (∀ n, o ≤ n → n < o + len → n + wd (l.getD n i0) < o + len) →
  (∀ n, o ≤ n → n < o + len → isOp l 9 n → ps.getD n 0 < ((o + len : Nat) : Int)) → (∀ n u : Nat, o ≤ u → u < o + len → isOp l 9 n → ps.getD n 0 = (u : Int) → o ≤ n) →
  Bd l o (o + len) d → Hd l ps o (o + len) hs → (ia = true → ∃ a, a < o ∧ isA (l.getD a i0) = true ∧ o + len ≤ a + wd (l.getD a i0) + 1) →
  ∃ t : Tr, t.len = len ∧ At l o t.flat ∧ Ok d hs ia t := by
 have hl2 := g.len2
 intro len
 induction len using Nat.strongRecOn with
 | _ len ih =>
 intro o d hs ia hlen S1 S2 S3 hB hH hI
 match len, ih, hlen, S1, S2, S3, hB, hH, hI with
 | 0, _, _, _, _, _, _, _, _ => exact ⟨.nil, rfl, ⟨by simp [Tr.flat]; omega, by simp [Tr.flat]⟩, trivial⟩
 | len + 1, ih, hlen, S1, S2, S3, hB, hH, hI =>
 have hol : o < l.length := by omega
 have hm := g.may _ (getD_mem (z := i0) hol)
 rcases op_cases hm with e | e | e | e | e | e
 ·exact absurd ((g.end_ o hol).1 e) (by omega)
 ·-- a reach
  have hA : isA (l.getD o i0) = true := by simp only [isA, e]; rfl
  have hw := mayA_wd hm hA
  have h1 := S1 o (by omega) (by omega)
  obtain ⟨n, hn⟩ : ∃ n, n = wd (l.getD o i0) := ⟨_, rfl⟩
  rw [← hn] at h1 hw
  have inb : ∀ n', o < n' → n' ≤ o + n → n' + wd (l.getD n' i0) ≤ o + n := fun n' q1 q2 => (by have := nest_wd g hA (n := n') (by omega) (by rw [← hn]; exact ⟨q1, q2⟩); omega)
  obtain ⟨b, b1, b2, b3⟩ := ih n (by omega) (o + 1) d hs true (by omega) (fun n' q1 q2 => by have := inb n' (by omega) (by omega); omega)
   (fun n' q1 q2 q3 => (by have := lock_area g P hA (n := n') (by omega) q3 (by omega) (by omega); omega))
   (fun n' u q1 q2 q3 q4 => lock_area_back g P hA q3 q4 (by omega) (by omega))
   (Bd_sub (by omega) (by omega) hB) (Hd_sub (by omega) (by omega) hH) (fun _ => ⟨o, by omega, hA, by omega⟩)
  obtain ⟨r, r1, r2, r3⟩ := ih (len - n) (by omega) (o + 1 + n) d hs ia (by omega) (fun n' q1 q2 => by have := S1 n' (by omega) (by omega); omega)
   (fun n' q1 q2 q3 => by have := S2 n' (by omega) (by omega) q3; omega)
   (fun n' u q1 q2 q3 q4 => by
    have := S3 n' u (by omega) (by omega) q3 q4
    by_cases f : n' = o
    ·subst f; exact absurd (show (l.getD n' i0).1 = 9 from q3) (by omega)
    ·by_cases f2 : n' ≤ o + n
     ·have := lock_area g P hA (by omega) q3 (show o < n' by omega) (by omega); omega
     ·omega)
   (Bd_sub (by omega) (by omega) hB) (Hd_sub (by omega) (by omega) hH) (fun q => by obtain ⟨a, a1, a2, a3⟩ := hI q; exact ⟨a, by omega, a2, by omega⟩)
  refine ⟨.ar (l.getD o i0) b r, by simp only [Tr.len]; omega, ?_, ⟨hm, hA, by omega⟩, fun e2 => by omega, ?_, r3⟩
  ·simp only [Tr.flat]
   exact At_one rfl hol (At_two b2 (by rw [flat_len, b1]; exact r2))
  ·rw [show ((l.getD o i0).1 == 8) = false by rw [e]; rfl]; exact b3
 ·-- a body
  have hA : isA (l.getD o i0) = true := by simp only [isA, e]; rfl
  have hw := mayA_wd hm hA
  have h1 := S1 o (by omega) (by omega)
  obtain ⟨n, hn⟩ : ∃ n, n = wd (l.getD o i0) := ⟨_, rfl⟩
  rw [← hn] at h1 hw
  have inb : ∀ n', o < n' → n' ≤ o + n → n' + wd (l.getD n' i0) ≤ o + n := fun n' q1 q2 => (by have := nest_wd g hA (n := n') (by omega) (by rw [← hn]; exact ⟨q1, q2⟩); omega)
  have hd : d < 2 ∧ Bd l (o + 1) (o + 1 + n) (d + 1) := by
   match d, hB with
   | 0, _ => exact ⟨by omega, o, by omega, e, by omega⟩
   | 1, ⟨a, a1, a2, a3⟩ => exact ⟨by omega, a, o, a1, by omega, a2, e, by omega, by omega⟩
   | 2, ⟨a, b, a1, a2, a3, a4, a5, a6⟩ =>
    have := three_bodies g.may (by omega) (a := a) (b := b) (c := o) (j := ((o + 1 : Nat) : Int)) a1 a2 hol (fun n' hn' => by
     rcases hn' with rfl | rfl | rfl
     ·exact ⟨a3, by omega, by omega⟩
     ·exact ⟨a4, by omega, by omega⟩
     ·exact ⟨e, by omega, by omega⟩)
    have := g.bodies (o + 1) (by omega)
    omega
   | _ + 3, h => exact h.elim
  obtain ⟨b, b1, b2, b3⟩ := ih n (by omega) (o + 1) (d + 1) hs true (by omega) (fun n' q1 q2 => by have := inb n' (by omega) (by omega); omega)
   (fun n' q1 q2 q3 => (by have := lock_area g P hA (n := n') (by omega) q3 (by omega) (by omega); omega))
   (fun n' u q1 q2 q3 q4 => lock_area_back g P hA q3 q4 (by omega) (by omega))
   hd.2 (Hd_sub (by omega) (by omega) hH) (fun _ => ⟨o, by omega, hA, by omega⟩)
  obtain ⟨r, r1, r2, r3⟩ := ih (len - n) (by omega) (o + 1 + n) d hs ia (by omega) (fun n' q1 q2 => by have := S1 n' (by omega) (by omega); omega)
   (fun n' q1 q2 q3 => by have := S2 n' (by omega) (by omega) q3; omega)
   (fun n' u q1 q2 q3 q4 => by
    have := S3 n' u (by omega) (by omega) q3 q4
    by_cases f : n' = o
    ·subst f; exact absurd (show (l.getD n' i0).1 = 9 from q3) (by omega)
    ·by_cases f2 : n' ≤ o + n
     ·have := lock_area g P hA (by omega) q3 (show o < n' by omega) (by omega); omega
     ·omega)
   (Bd_sub (by omega) (by omega) hB) (Hd_sub (by omega) (by omega) hH) (fun q => by obtain ⟨a, a1, a2, a3⟩ := hI q; exact ⟨a, by omega, a2, by omega⟩)
  refine ⟨.ar (l.getD o i0) b r, by simp only [Tr.len]; omega, ?_, ⟨hm, hA, by omega⟩, fun _ => hd.1, ?_, r3⟩
  ·simp only [Tr.flat]
   exact At_one rfl hol (At_two b2 (by rw [flat_len, b1]; exact r2))
  ·rw [show ((l.getD o i0).1 == 8) = true by rw [e]; rfl]; exact b3
 ·-- a pair
  obtain ⟨u, u1, u2, u3, u4, u5⟩ := P.lock o hol e
  have hu := S2 o (by omega) (by omega) e
  rw [u1] at hu
  have h9 := may9 hm (.inl e)
  have hmu := may9 (g.may _ (getD_mem (z := i0) u3)) (.inr u4)
  have hxo : l.getD o i0 = (9, semOf l o, 0, 0) := Prod.ext e (Prod.ext rfl (Prod.ext h9.2.1 h9.2.2))
  have hxu : l.getD u i0 = (10, semOf l o, 0, 0) := Prod.ext u4 (Prod.ext u5 (Prod.ext hmu.2.1 hmu.2.2))
  have hsep := (sepA_none g.may (by omega)).1 (P.area o hol e u u1)
  obtain ⟨H, H1, H2, H3⟩ := hH
  have hnot : semOf l o ∉ hs := by
   rw [H1]; intro hq
   obtain ⟨k, k1, k2⟩ := List.mem_map.1 hq
   obtain ⟨k3, k4, k5⟩ := H3 k k1
   exact (P.nest k o k3 hol k4 e (by omega)).2 k2
  have hfew : hs.length < 2 := by
   rw [H1, List.length_map]
   match H, H2, H3 with
   | [], _, _ => simp
   | [a], _, _ => simp
   | a :: b :: q, H2, H3 =>
    exfalso
    obtain ⟨a1, a2, a3⟩ := H3 a (by simp)
    obtain ⟨b1, b2, b3⟩ := H3 b (by simp)
    have hab : a < b := (List.pairwise_cons.1 H2).1 b (by simp)
    exact P.two a b o hab b1 hol a2 b2 e (by omega) (by omega)
  obtain ⟨b, b1, b2, b3⟩ := ih (u - (o + 1)) (by omega) (o + 1) d (hs ++ [semOf l o]) ia (by omega) (fun n' q1 q2 => by
    by_cases hA : isA (l.getD n' i0) = true
    ·have := hsep n' (by omega) hA
     by_cases f : n' + wd (l.getD n' i0) < o + 1 + (u - (o + 1))
     ·exact f
     ·have := this.2 ⟨by omega, by omega⟩; omega
    ·rw [wd_zero (by simpa using hA)]; omega)
   (fun n' q1 q2 q3 => by have := (P.nest o n' (by omega) (by omega) e q3 (by omega)).1; omega)
   (fun n' v q1 q2 q3 q4 => by
    have := S3 n' v (by omega) (by omega) q3 q4
    by_cases f : n' = o
    ·subst f; omega
    ·omega)
   (Bd_sub (by omega) (by omega) hB) ⟨H ++ [o], by rw [H1, List.map_append]; rfl, by
    rw [List.pairwise_append]
    exact ⟨H2, List.pairwise_singleton _ _, fun a ha b hb => by rw [List.mem_singleton.1 hb]; exact (H3 a ha).1⟩, fun k hk => by
    rcases List.mem_append.1 hk with hk | hk
    ·obtain ⟨k1, k2, k3⟩ := H3 k hk; exact ⟨by omega, k2, by omega⟩
    ·rw [List.mem_singleton.1 hk]; exact ⟨by omega, e, by omega⟩⟩ (fun q => by obtain ⟨a, a1, a2, a3⟩ := hI q; exact ⟨a, by omega, a2, by omega⟩)
  obtain ⟨r, r1, r2, r3⟩ := ih (o + len - u) (by omega) (u + 1) d hs ia (by omega) (fun n' q1 q2 => by have := S1 n' (by omega) (by omega); omega)
   (fun n' q1 q2 q3 => by have := S2 n' (by omega) (by omega) q3; omega)
   (fun n' v q1 q2 q3 q4 => by
    have := S3 n' v (by omega) (by omega) q3 q4
    by_cases f : n' = o
    ·subst f; omega
    ·by_cases f2 : n' < u
     ·have := (P.nest o n' (by omega) (by omega) e q3 (by omega)).1; omega
     ·by_cases f3 : n' = u
      ·subst f3; exact absurd (show (l.getD n' i0).1 = 9 from q3) (by rw [show (l.getD n' i0).1 = 10 from u4]; decide)
      ·omega)
   (Bd_sub (by omega) (by omega) hB) (Hd_sub (by omega) (by omega) ⟨H, H1, H2, H3⟩) (fun q => by obtain ⟨a, a1, a2, a3⟩ := hI q; exact ⟨a, by omega, a2, by omega⟩)
  refine ⟨.lk (semOf l o) b r, by simp only [Tr.len]; omega, ?_, h9.1, ⟨hnot, hfew⟩, b3, r3⟩
  simp only [Tr.flat]
  refine At_one hxo hol (At_two b2 ?_)
  rw [flat_len, b1, show o + 1 + (u - (o + 1)) = u by omega]
  exact At_one hxu u3 r2
 ·-- an unlock whose lock stands ahead of all
  obtain ⟨n', q1, q2, q3⟩ := P.unlock o hol e
  have := S3 n' o (by omega) (by omega) q2 q3
  omega
 ·-- a plain one
  obtain ⟨r, r1, r2, r3⟩ := ih len (by omega) (o + 1) d hs ia (by omega) (fun n' q1 q2 => by have := S1 n' (by omega) (by omega); omega)
   (fun n' q1 q2 q3 => by have := S2 n' (by omega) (by omega) q3; omega)
   (fun n' v q1 q2 q3 q4 => by
    have := S3 n' v (by omega) (by omega) q3 q4
    by_cases f : n' = o
    ·subst f; exact absurd q3 e.2.2.2.1
    ·omega)
   (Bd_sub (by omega) (by omega) hB) (Hd_sub (by omega) (by omega) hH) (fun q => by obtain ⟨a, a1, a2, a3⟩ := hI q; exact ⟨a, by omega, a2, by omega⟩)
  refine ⟨.one (l.getD o i0) r, by simp only [Tr.len]; omega, At_one rfl hol r2, hm, e, fun e11 => ?_, r3⟩
  obtain ⟨m1, m2⟩ := g.marks o hol e11
  constructor
  ·cases ia with
   | false => rfl
   | true =>
    exfalso
    obtain ⟨a, a1, a2, a3⟩ := hI rfl
    rw [List.any_eq_false] at m1
    have := m1 (arOf a (l.getD a i0)) ((pcs_mem_iff l 0 _ g.may (by omega)).2 ⟨a, by omega, a2, by rw [Nat.zero_add]⟩)
    rw [has_iff] at this
    simp only [arOf] at this
    omega
  ·obtain ⟨H, H1, H2, H3⟩ := hH
   cases H with
   | nil => exact H1
   | cons k q =>
    exfalso
    obtain ⟨k1, k2, k3⟩ := H3 k (by simp)
    have := m2 k k1
    omega
where
 nest_wd {l : List I4} {ps : List Int} (g : GoodA l ps) {o n : Nat} (hA : isA (l.getD o i0) = true) (hn : n < l.length) (h : o < n ∧ n ≤ o + wd (l.getD o i0)) : n + wd (l.getD n i0) ≤ o + wd (l.getD o i0) := by
  have hl2 := g.len2
  by_cases hB : isA (l.getD n i0) = true
  ·have := g.bad (arOf n (l.getD n i0)) ((pcs_mem_iff l 0 _ g.may (by omega)).2 ⟨n, hn, hB, by rw [Nat.zero_add]⟩) (arOf o (l.getD o i0)) ((pcs_mem_iff l 0 _ g.may (by omega)).2 ⟨o, by omega, hA, by rw [Nat.zero_add]⟩)
   unfold badA at this
   rw [Bool.or_eq_false_iff] at this
   have h2 := this.1
   have hq : hasA (arOf o (l.getD o i0)) (arOf n (l.getD n i0)).2.2.1 = true := has_iff.2 (by simp only [arOf]; omega)
   rw [hq, Bool.true_and, Bool.not_eq_false'] at h2
   unfold inA at h2
   rw [Bool.and_eq_true, has_iff, has_iff] at h2
   simp only [arOf] at h2
   omega
  ·rw [wd_zero (by simpa using hB)]; omega
 lock_area {l : List I4} {ps : List Int} (g : GoodA l ps) (P : Prs l ps) {o n : Nat} (hA : isA (l.getD o i0) = true) (hn : n < l.length) (h9 : isOp l 9 n) (h1 : o < n) (h2 : n ≤ o + wd (l.getD o i0)) : ps.getD n 0 < ((o + wd (l.getD o i0) + 1 : Nat) : Int) := by
  have hl2 := g.len2
  obtain ⟨u, u1, _⟩ := P.lock n hn h9
  have := (sepA_none g.may (by omega)).1 (P.area n hn h9 u u1) o (by omega) hA
  have := this.1 ⟨h1, h2⟩
  omega
 lock_area_back {l : List I4} {ps : List Int} (g : GoodA l ps) (P : Prs l ps) {o n u : Nat} (hA : isA (l.getD o i0) = true) (h9 : isOp l 9 n) (hu : ps.getD n 0 = (u : Int)) (h1 : o + 1 ≤ u) (h2 : u ≤ o + wd (l.getD o i0)) : o + 1 ≤ n := by
  have hl2 := g.len2
  have hn : n < l.length := by
   by_cases f : n < l.length
   ·exact f
   ·have : l.getD n i0 = i0 := getD_out (by omega)
    unfold isOp at h9; rw [this] at h9; exact absurd h9 (by decide)
  have hol : o < l.length := by
   by_cases f : o < l.length
   ·exact f
   ·rw [getD_out (by omega)] at hA; exact absurd hA (by decide)
  have := (sepA_none g.may (by omega)).1 (P.area n hn h9 u hu) o hol hA
  have := this.2 ⟨by omega, h2⟩
  omega
theorem good_is_tree {l : List I4} (h : mayA l = true) : ∃ t : Tr, Ok 0 [] false t ∧ l = t.prog ∧ t.len < 24 := by
 obtain ⟨ps, g⟩ := mayA_iff.1 h
 have hl1 := g.len1
 have hl2 := g.len2
 have P := prs_facts g.pairs
 have hlast : (l.getD (l.length - 1) i0).1 = 0 := (g.end_ (l.length - 1) (by omega)).2 (by omega)
 obtain ⟨t, t1, t2, t3⟩ := parse g P (l.length - 1) 0 0 [] false (by omega) (fun n h1 h2 => by
   by_cases hA : isA (l.getD n i0) = true
   ·have := g.last (arOf n (l.getD n i0)) ((pcs_mem_iff l 0 _ g.may (by omega)).2 ⟨n, by omega, hA, by rw [Nat.zero_add]⟩)
    have e : (arOf n (l.getD n i0)).2.1 = ((n + wd (l.getD n i0) : Nat) : Int) := rfl
    omega
   ·rw [wd_zero (by simpa using hA)]; omega)
  (fun n h1 h2 h9 => by
   obtain ⟨u, u1, u2, u3, u4, _⟩ := P.lock n (by omega) h9
   have : u ≠ l.length - 1 := fun e => by
    subst e
    rw [show (l.getD (l.length - 1) i0).1 = 10 from u4] at hlast; exact absurd hlast (by decide)
   omega) (fun n u _ _ _ _ => by omega) trivial ⟨[], rfl, List.Pairwise.nil, fun k hk => by cases hk⟩ (fun e => by cases e)
 have hz : l.getD (l.length - 1) i0 = i0 := by
  have := g.may _ (getD_mem (z := i0) (l := l) (i := l.length - 1) (by omega))
  have h3 : (l.getD (l.length - 1) i0).2.1 = 0 ∧ (l.getD (l.length - 1) i0).2.2.1 = 0 ∧ (l.getD (l.length - 1) i0).2.2.2 = 0 := by
   generalize l.getD (l.length - 1) i0 = x at this hlast
   simpa [mayI, hlast] using this
  exact Prod.ext hlast (Prod.ext h3.1 (Prod.ext h3.2.1 h3.2.2))
 refine ⟨t, t3, ?_, by omega⟩
 have hpl := prog_len t
 apply List.ext_getElem (by omega)
 intro n h1 h2
 rw [← getD_in (z := i0) h1, ← getD_in (z := i0) h2]
 by_cases e : n < t.len
 ·have := t2.2 n (by rw [flat_len]; exact e)
  rw [Nat.zero_add] at this
  rw [this]
  unfold Tr.prog
  rw [getD_app_l (by rw [flat_len]; exact e)]
 ·have : n = l.length - 1 := by omega
  subst this
  rw [hz, show l.length - 1 = t.len by omega, prog_end]
end Go.Proofs.YteflacbgobpmcaaGreat.Ab

/- Tasks: which may be, what they cost. -/
namespace Go.Proofs.YteflacbgobpmcaaGreat.Ab
open Go.RowKit Tr
set_option linter.unusedSimpArgs false
set_option linter.unusedVariables false
abbrev Tk := Int × Int × Int × List I4 × List I4 × List I4
noncomputable def cst (l : List I4) : Int × Int × List (Int × Int) := (costOf l).getD (0, 0, [])
def hasL (l : List I4) : Bool := l.any fun i => i.1 == 9
theorem costO_cst (l : List I4) : costO l (costOf l) = some ((cst l, mayA l, ()), ()) := by
 unfold cst costOf
 cases h : mayA l with
 | false => rfl
 | true => rfl
theorem mayA_nil : mayA [] = false := by
 cases h : mayA [] with
 | false => rfl
 | true => obtain ⟨ps, g⟩ := mayA_iff.1 h; exact absurd g.len1 (by simp)
theorem cst_bad {l : List I4} (h : mayA l = false) : cst l = (0, 0, []) := by unfold cst costOf; rw [h]; rfl
theorem cst_good {l : List I4} {ps : List Int} (g : GoodA l ps) : cst l = costR l ps := by unfold cst; rw [costOf_good g]; rfl
theorem cst_all (l : List I4) : 0 ≤ (cst l).1 ∧ (cst l).1 ≤ 9600 := by
 cases h : mayA l with
 | false => rw [cst_bad h]; simp
 | true =>
  obtain ⟨ps, g⟩ := mayA_iff.1 h
  have := sm_sub g ((0 : Nat) : Int) ((tms l).length : Int)
  rw [sub_all] at this
  rw [cst_good g]; exact this
theorem cst_len (l : List I4) : (cst l).2.2.length ≤ 24 := by
 unfold cst
 cases h : costOf l with
 | none => simp
 | some c => exact costOf_len h
theorem S35_eq {k : Nat} (hk : 1000 ≤ k) {l : List I4} (hl : l.length ≤ 900) : S35 k l = some ((((l.length : Int) == 0) || mayA l, ()), ()) := by
 unfold S35
 cases (l.length : Int) == 0 with
 | true => rfl
 | false => rw [cond_false, S34_eq hk hl, Option.bind_some]; rfl
theorem S65b_eq {k : Nat} (hk : 1000 ≤ k) {s : List I4} (h : s.length ≤ 900) : S65b k s = some ((idxI (fun i => i.1 == 9) s, ()), ()) := by
 unfold S65b
 refine idx_all (fun j i => L65b_2 k j s (s.length : Int) i) s i0 _ (fun j i hi => ?_) (fun j => ?_) k (by omega)
 ·show L65b_2 k (j + 1) s (s.length : Int) (i : Int) = _
  rw [L65b_2_s, l65b_2, bif_t (by omega), ix_nat hi, w64_nat (by omega)]
  simp only [S72, Option.bind_some, rd_nat]
 ·show L65b_2 k (j + 1) s (s.length : Int) (s.length : Int) = _
  rw [L65b_2_s, l65b_2, bif_f (by omega)]
theorem S36_eq {k : Nat} (hk : 1000 ≤ k) {s : List I4} (h : s.length ≤ 900) : S36 k s = some ((hasL s, ()), ()) := by
 unfold S36 S62a
 rw [S65b_eq hk h]; simp only [Option.bind_some, idx_ge]; rfl
theorem S37_eq {k : Nat} (hk : 1000 ≤ k) {l : List I4} (hl : l.length ≤ 900) : S37 k l = some (((cst l).1, ()), ()) := by
 unfold S37
 rw [S49_eq hk hl, costO_cst, Option.bind_some]
theorem S42_eq {k : Nat} (hk : 1000 ≤ k) {l : List I4} (hl : l.length ≤ 900) : S42 k l = some ((hasL l, ()), ()) := by
 unfold S42
 have := any_all (fun j i => L42_2 k j l i) l i0 (fun i => i.1 == 9) (some ((true, ()), ())) (some ((false, ()), ())) (fun j n hn => by
  show L42_2 k (j + 1) l (n : Int) = _
  rw [L42_2_s, l42_2, bif_t (by omega), ix_nat hn, w64_nat (by omega), rd_nat]) (fun j => by
  show L42_2 k (j + 1) l (l.length : Int) = _
  rw [L42_2_s, l42_2, bif_f (by omega)]) k (by omega)
 refine Eq.trans this ?_
 unfold hasL
 cases l.any fun i => i.1 == 9 <;> rfl
noncomputable def mayT (t : Tk) : Int :=
 bif decide (t.1 < 0) then 1 else bif decide (t.1 > 63) then 1 else bif decide (t.2.1 < 1) then 9 else bif decide (t.2.1 > 16384) then 9 else
 bif decide (t.2.2.1 < 1) then 9 else bif decide (t.2.2.1 > t.2.1) then 9 else
 bif !mayA t.2.2.2.1 then 2 else bif !(((t.2.2.2.2.1.length : Int) == 0) || mayA t.2.2.2.2.1) then 2 else bif !(((t.2.2.2.2.2.length : Int) == 0) || mayA t.2.2.2.2.2) then 2 else
 bif hasL t.2.2.2.2.2 then 2 else bif decide ((cst t.2.2.2.1).1 > t.2.2.1) then 10 else bif decide ((cst t.2.2.2.2.1).1 > (cst t.2.2.2.1).1) then 12 else 0
theorem bsel1 {α : Type} {c : Bool} {a b : α} : (bif c then some ((a, ()), ()) else some ((b, ()), ())) = some (((bif c then a else b), ()), ()) := by cases c <;> rfl
def lightT (t : Tk) : Prop := t.2.2.2.1.length ≤ 900 ∧ t.2.2.2.2.1.length ≤ 900 ∧ t.2.2.2.2.2.length ≤ 900
theorem S16_eq {k : Nat} (hk : 1000 ≤ k) {t : Tk} (h : lightT t) : S16 k t = some ((mayT t, ()), ()) := by
 unfold S16
 simp only [S34_eq hk h.1, S35_eq hk h.2.1, S35_eq hk h.2.2, S36_eq hk h.2.2, S37_eq hk h.1, S37_eq hk h.2.1, Option.bind_some, bsel1]
 rfl
theorem S22_eq {k : Nat} (hk : 1000 ≤ k) {t : Tk} (h : lightT t) : S22 k t = some ((mayT t, ()), ()) := by
 unfold S22 mayT
 simp only [S41_eq hk h.1, S41_eq hk h.2.1, S41_eq hk h.2.2, S42_eq hk h.2.2, costO_cst, Option.bind_some, bsel1]
 obtain ⟨r, p, e, m, w, o⟩ := t
 simp only
 congr 3
 cases decide (r < 0) with | true => rfl | false =>
 cases decide (r > 63) with | true => rfl | false =>
 cases decide (p < 1) with | true => rfl | false =>
 cases decide (p > 16384) with | true => rfl | false =>
 cases decide (e < 1) with | true => rfl | false =>
 cases decide (e > p) with | true => rfl | false =>
 cases mayA m with | false => rfl | true =>
 simp only [cond_false, cond_true, Bool.not_true, Bool.not_false]
 have hm := (cst_all m).1
 have hw : (decide ((w.length : Int) > 0)) = !((w.length : Int) == 0) := by
  rw [Bool.eq_iff_iff, Bool.not_eq_true', decide_eq_true_iff, beq_eq_false_iff_ne]; omega
 have ho : (decide ((o.length : Int) > 0)) = !((o.length : Int) == 0) := by
  rw [Bool.eq_iff_iff, Bool.not_eq_true', decide_eq_true_iff, beq_eq_false_iff_ne]; omega
 rw [hw, ho]
 have fin : ∀ x : Bool, ((w.length : Int) == 0) = x → (x = true → decide ((cst w).1 > (cst m).1) = false) := fun x e hx => by
  subst hx
  have : w = [] := List.length_eq_zero_iff.1 (by have := eq_of_beq e; omega)
  rw [this, cst_bad mayA_nil]; exact decide_eq_false (by simp only; omega)
 have fo : ∀ x : Bool, ((o.length : Int) == 0) = x → (x = true → hasL o = false) := fun x e hx => by
  subst hx
  have : o = [] := List.length_eq_zero_iff.1 (by have := eq_of_beq e; omega)
  rw [this]; rfl
 have fin := fin _ rfl
 have fo := fo _ rfl
 revert fin fo
 generalize ((w.length : Int) == 0) = a1
 generalize ((o.length : Int) == 0) = a2
 generalize mayA w = a3
 generalize mayA o = a4
 generalize hasL o = a5
 generalize decide ((cst m).1 > e) = a6
 generalize decide ((cst w).1 > (cst m).1) = a7
 intro fin fo
 cases a1 <;> cases a2 <;> cases a3 <;> cases a4 <;> cases a5 <;> cases a6 <;> cases a7 <;> first | rfl | (cases fin rfl; done) | (cases fo rfl; done)
noncomputable def costsT (t : Tk) : Int × Int × List (Int × Int) :=
 if mayT t = 0 then ((cst t.2.2.2.1).1, bif mayA t.2.2.2.2.1 then (cst t.2.2.2.2.1).1 else (cst t.2.2.2.1).2.1, (cst t.2.2.2.1).2.2 ++ (cst t.2.2.2.2.1).2.2) else (0, 0, [])
theorem L50_3_eq {k : Nat} (hk : 1000 ≤ k) {a b : List (Int × Int)} (ha : a.length ≤ 900) (hb : b.length ≤ 900) (j : Nat) : L50_3 k (j + 3) [a, b] 0 [a, b] 2 0 = some ((a ++ b, ()), ()) := by
 have e1 : L50_11 k k ([] : List (Int × Int)) [a, b] 2 0 = some ((a ++ b, ()), ()) := by
  obtain ⟨k', hk'⟩ : ∃ k', k = k' + 3 := ⟨k - 3, by omega⟩
  have : ∀ j, L50_11 k (j + 3) ([] : List (Int × Int)) [a, b] 2 0 = some ((a ++ b, ()), ()) := fun j => by
   rw [L50_11_s, l50_11, bif_t (by omega), ix_ok (by omega) (by simp), show rd [a, b] 0 [] = a from rfl, ap_ok (by simp only [List.length_nil]; omega), w64 (by omega) (by omega), List.nil_append]
   rw [L50_11_s, l50_11, bif_t (by omega), ix_ok (by omega) (by simp), show rd [a, b] (0 + 1) [] = b from rfl, ap_ok (by omega), w64 (by omega) (by omega)]
   rw [L50_11_s, l50_11, bif_f (by omega)]
  have := this (k - 3)
  rwa [show k - 3 + 3 = k by omega] at this
 rw [L50_3_s, l50_3, bif_t (by omega), ix_ok (by omega) (by simp), show rd [a, b] 0 [] = a from rfl, w64 (n := 0 + (a.length : Int)) (by omega) (by omega), bif_f (by omega), w64 (by omega) (by omega)]
 rw [L50_3_s, l50_3, bif_t (by omega), ix_ok (by omega) (by simp), show rd [a, b] (0 + 1) [] = b from rfl, w64 (n := 0 + (a.length : Int) + (b.length : Int)) (by omega) (by omega), bif_f (by omega), w64 (by omega) (by omega)]
 rw [L50_3_s, l50_3, bif_f (by omega)]
 unfold S80
 rw [bif_f (by omega), w64 (n := 0 + (a.length : Int) + (b.length : Int) - 0) (by omega) (by omega)]
 by_cases h0 : 0 + (a.length : Int) + (b.length : Int) - 0 > 0
 ·rw [bif_t h0]
  unfold az
  rw [if_pos (by rw [Bool.and_eq_true]; exact ⟨decide_eq_true (by omega), decide_eq_true (by simp only [List.length_nil]; omega)⟩)]
  dsimp only
  rw [sx_ok (by omega) (by omega) (by omega), Option.bind_some]
  exact e1
 ·rw [bif_f h0, Option.bind_some]; exact e1
theorem S50_eq {k : Nat} (hk : 1000 ≤ k) {a b : List (Int × Int)} (ha : a.length ≤ 900) (hb : b.length ≤ 900) : S50 k [a, b] = some ((a ++ b, ()), ()) := by
 unfold S50
 have := L50_3_eq hk ha hb (k - 3)
 rwa [show k - 3 + 3 = k by omega] at this
theorem S27_eq {k : Nat} (hk : 1000 ≤ k) {t : Tk} (h : lightT t) : S27 k t = some (((costsT t).1, (costsT t).2.1, (costsT t).2.2, ()), ()) := by
 have h1 := cst_len t.2.2.2.1
 have h2 := cst_len t.2.2.2.2.1
 unfold S27 costsT
 rw [S16_eq hk h, Option.bind_some]
 by_cases hm : mayT t = 0
 ·rw [if_pos hm]
  simp only [hm, bne_self_eq_false, cond_false, S49_eq hk h.1, S49_eq hk h.2.1, costO_cst, Option.bind_some, S50_eq hk (show (cst t.2.2.2.1).2.2.length ≤ 900 by omega) (show (cst t.2.2.2.2.1).2.2.length ≤ 900 by omega)]
  cases mayA t.2.2.2.2.1 <;> rfl
 ·rw [if_neg hm]
  simp only [bne_iff_ne.2 hm, cond_true]
theorem S44_eq {k : Nat} (hk : 1000 ≤ k) {t : Tk} (h : lightT t) : S44 k t = some (((costsT t).1, (costsT t).2.1, (costsT t).2.2, ()), ()) := by
 have h1 := cst_len t.2.2.2.1
 have h2 := cst_len t.2.2.2.2.1
 unfold S44 costsT
 rw [S22_eq hk h, Option.bind_some]
 by_cases hm : mayT t = 0
 ·have hw : decide ((t.2.2.2.2.1.length : Int) > 0) = mayA t.2.2.2.2.1 := by
   have : (((t.2.2.2.2.1.length : Int) == 0) || mayA t.2.2.2.2.1) = true := by
    cases hc : (((t.2.2.2.2.1.length : Int) == 0) || mayA t.2.2.2.2.1) with
    | true => rfl
    | false =>
     exfalso
     unfold mayT at hm
     rw [hc] at hm
     revert hm
     cases decide (t.1 < 0) <;> cases decide (t.1 > 63) <;> cases decide (t.2.1 < 1) <;> cases decide (t.2.1 > 16384) <;> cases decide (t.2.2.1 < 1) <;> cases decide (t.2.2.1 > t.2.1) <;> cases mayA t.2.2.2.1 <;> simp
   rw [Bool.or_eq_true, beq_iff_eq] at this
   rw [Bool.eq_iff_iff, decide_eq_true_iff]
   constructor
   ·intro h; rcases this with e | e
    ·omega
    ·exact e
   ·intro e
    rcases Nat.eq_zero_or_pos t.2.2.2.2.1.length with e2 | e2
    ·rw [List.length_eq_zero_iff.1 e2, mayA_nil] at e; cases e
    ·omega
  rw [if_pos hm]
  simp only [hm, bne_self_eq_false, cond_false, S41_eq hk h.1, S41_eq hk h.2.1, costO_cst, Option.bind_some, hw]
  unfold j44_8
  cases mayA t.2.2.2.2.1 <;> (simp only [cond_true, cond_false]; rw [ap_ok (by simp only [List.length_nil]; omega), ap_ok (by simp only [List.nil_append]; omega)]; rfl)
 ·rw [if_neg hm]
  simp only [bne_iff_ne.2 hm, cond_true]
end Go.Proofs.YteflacbgobpmcaaGreat.Ab

/- Tasks that are made of numbers; the law of all tasks. -/
namespace Go.Proofs.YteflacbgobpmcaaGreat.Ab
open Go.RowKit Tr
set_option linter.unusedSimpArgs false
set_option linter.unusedVariables false
structure MT (locks rank : Int) (t : Tk) : Prop where
 rank : t.1 = rank
 per : 20 ≤ t.2.1 ∧ t.2.1 ≤ 130
 en : t.2.1 - 9 ≤ t.2.2.1 ∧ t.2.2.1 ≤ t.2.1
 main : ∃ m, t.2.2.2.1 = Tr.prog m ∧ Mp locks m ∧ m.len ≤ 22
 way : t.2.2.2.2.1 = [] ∨ t.2.2.2.2.1 = [(1, 0, 0, 99), (0, 0, 0, 0)] ∨ t.2.2.2.2.1 = [(0, 0, 0, 0)]
 opt : t.2.2.2.2.2 = [] ∨ ∃ o, t.2.2.2.2.2 = Tr.prog o ∧ Mp 0 o ∧ o.len ≤ 22
theorem MT.light {locks rank : Int} {t : Tk} (h : MT locks rank t) : lightT t := by
 obtain ⟨m, e, _, hm⟩ := h.main
 refine ⟨by rw [e, prog_len]; omega, ?_, ?_⟩
 ·rcases h.way with e | e | e <;> rw [e] <;> simp
 ·rcases h.opt with e | ⟨o, e, _, ho⟩
  ·rw [e]; simp
  ·rw [e, prog_len]; omega
theorem j7_6_eq {k : Nat} (hk : 1000 ≤ k) {p : List Int} {n r pe e : Int} (a b c : Int) {m w : List I4} {locks : Int} (hp : PkOK p n) (h1 : 20 ≤ pe ∧ pe ≤ 130) (h2 : pe - 9 ≤ e ∧ e ≤ pe) (h3 : ∃ t, m = Tr.prog t ∧ Mp locks t ∧ t.len ≤ 22) (h4 : w = [] ∨ w = [(1, 0, 0, 99), (0, 0, 0, 0)] ∨ w = [(0, 0, 0, 0)]) :
  ∃ t n', j7_6 k p n a b c r pe e m w [] = some ((t, ()), (p, n', ()), ()) ∧ PkOK p n' ∧ MT locks r t := by
 unfold j7_6
 obtain ⟨v, n1, e1, hv, hp1⟩ := S6_eq k hp (show (0 : Int) < 3 by omega)
 rw [e1, Option.bind_some]
 simp only
 cases v == 0 with
 | false => exact ⟨_, _, rfl, hp1, ⟨rfl, h1, h2, h3, h4, .inl rfl⟩⟩
 | true =>
  obtain ⟨o, n2, e2, hp2, ho, hol⟩ := S15_eq hk (locks := 0) (by omega) hp1
  rw [cond_true, e2, Option.bind_some]
  exact ⟨_, _, rfl, hp2, ⟨rfl, h1, h2, h3, h4, .inr ⟨o, rfl, ho, hol⟩⟩⟩
theorem S7_eq {k : Nat} (hk : 1000 ≤ k) {p : List Int} {n rank locks : Int} (hl : 0 ≤ locks ∧ locks ≤ 4) (hp : PkOK p n) : ∃ t n', S7 k p n rank locks = some ((t, ()), (p, n', ()), ()) ∧ PkOK p n' ∧ MT locks rank t := by
 unfold S7
 obtain ⟨t, n1, e1, hp1, ht, htl⟩ := S15_eq hk hl hp
 rw [e1, Option.bind_some]
 simp only
 obtain ⟨v2, n2, e2, hv2, hp2⟩ := S6_eq k hp1 (show (0 : Int) < 12 by omega)
 rw [e2, Option.bind_some]
 simp only
 obtain ⟨v3, n3, e3, hv3, hp3⟩ := S6_eq k hp2 (show (0 : Int) < 10 by omega)
 rw [e3, Option.bind_some]
 simp only
 obtain ⟨v4, n4, e4, hv4, hp4⟩ := S6_eq k hp3 (show (0 : Int) < 3 by omega)
 rw [e4, Option.bind_some]
 simp only
 rw [w64 (n := 10 * v2) (by omega) (by omega), w64 (n := 20 + 10 * v2) (by omega) (by omega), w64 (n := 20 + 10 * v2 - v3) (by omega) (by omega)]
 cases v4 == 0 with
 | false => exact j7_6_eq hk 0 0 0 hp4 (by omega) (by omega) ⟨t, rfl, ht, htl⟩ (.inl rfl)
 | true =>
  obtain ⟨v5, n5, e5, hv5, hp5⟩ := S6_eq k hp4 (show (0 : Int) < 2 by omega)
  rw [cond_true, e5, Option.bind_some]
  simp only
  rw [sx_ok (by omega) (by simp only [List.length_cons, List.length_nil]; omega) (by omega)]
  have : v5 = 0 ∨ v5 = 1 := by omega
  refine j7_6_eq hk 0 0 0 hp5 (by omega) (by omega) ⟨t, rfl, ht, htl⟩ (.inr ?_)
  rcases this with e | e
  ·subst e; exact .inl rfl
  ·subst e; exact .inr rfl
theorem costsT_len (t : Tk) : (costsT t).2.2.length ≤ 48 := by
 unfold costsT
 split
 ·have := cst_len t.2.2.2.1
  have := cst_len t.2.2.2.2.1
  simp only [List.length_append]; omega
 ·simp
end Go.Proofs.YteflacbgobpmcaaGreat.Ab

/- Which tasks may be; costs of made ones. -/
namespace Go.Proofs.YteflacbgobpmcaaGreat.Ab
open Go.RowKit Tr
set_option linter.unusedSimpArgs false
set_option linter.unusedVariables false
theorem b0 {c : Bool} {a b : Int} (h : a ≠ 0) : (bif c then a else b) = 0 ↔ c = false ∧ b = 0 := by cases c <;> simp [h]
theorem mayT_zero {t : Tk} : mayT t = 0 ↔ (0 ≤ t.1 ∧ t.1 ≤ 63) ∧ (1 ≤ t.2.1 ∧ t.2.1 ≤ 16384) ∧ (1 ≤ t.2.2.1 ∧ t.2.2.1 ≤ t.2.1) ∧ mayA t.2.2.2.1 = true ∧ (t.2.2.2.2.1 = [] ∨ mayA t.2.2.2.2.1 = true) ∧ (t.2.2.2.2.2 = [] ∨ mayA t.2.2.2.2.2 = true) ∧ hasL t.2.2.2.2.2 = false ∧ (cst t.2.2.2.1).1 ≤ t.2.2.1 ∧ (cst t.2.2.2.2.1).1 ≤ (cst t.2.2.2.1).1 := by
 have e : ∀ l : List I4, ((l.length : Int) = 0 ∨ mayA l = true) ↔ (l = [] ∨ mayA l = true) := fun l => by
  rw [show ((l.length : Int) = 0) ↔ l = [] by rw [← List.length_eq_zero_iff]; omega]
 unfold mayT
 rw [b0 (by decide), b0 (by decide), b0 (by decide), b0 (by decide), b0 (by decide), b0 (by decide), b0 (by decide), b0 (by decide), b0 (by decide), b0 (by decide), b0 (by decide), b0 (by decide)]
 rw [Bool.not_eq_false', Bool.not_eq_false', Bool.not_eq_false', Bool.or_eq_true, Bool.or_eq_true, beq_iff_eq, beq_iff_eq, e, e, decide_eq_false_iff_not, decide_eq_false_iff_not, decide_eq_false_iff_not, decide_eq_false_iff_not, decide_eq_false_iff_not, decide_eq_false_iff_not, decide_eq_false_iff_not, decide_eq_false_iff_not]
 constructor
 ·rintro ⟨a1, a2, a3, a4, a5, a6, a7, a8, a9, b1, b2, b3, _⟩
  exact ⟨by omega, by omega, by omega, a7, a8, a9, b1, by omega, by omega⟩
 ·rintro ⟨a1, a2, a3, a7, a8, a9, b1, b2, b3⟩
  exact ⟨by omega, by omega, by omega, by omega, by omega, by omega, a7, a8, a9, b1, by omega, by omega, rfl⟩
theorem spans_bd : ∀ {t : Tr} {d : Nat} {hs : List Int} {ia : Bool}, Ok d hs ia t → ∀ e ∈ t.spans, 1 ≤ e.2 ∧ e.2 ≤ t.cost
 | .nil, _, _, _, _, e, h => by simp [Tr.spans] at h
 | .one x r, _, _, _, ⟨_, _, _, h4⟩, e, h => by have := spans_bd h4 e h; simp only [Tr.cost]; omega
 | .lk a b r, _, _, _, ⟨_, _, h3, h4⟩, e, h => by
  have c1 := cost_nonneg h3; have c2 := cost_nonneg h4
  simp only [Tr.spans, List.mem_cons, List.mem_append] at h
  simp only [Tr.cost]
  rcases h with q | q | q
  ·subst q; simp only; omega
  ·have := spans_bd h3 e q; omega
  ·have := spans_bd h4 e q; omega
 | .ar x b r, _, _, _, ⟨hx, _, h3, h4⟩, e, h => by
  have c1 := cost_nonneg h3; have c2 := cost_nonneg h4
  have hr := repOf_may hx.1
  have hm : 1 * b.cost ≤ repOf x * b.cost := Int.mul_le_mul_of_nonneg_right hr.1 c1
  simp only [Tr.spans, List.mem_append] at h
  simp only [Tr.cost]
  rcases h with q | q
  ·have := spans_bd h3 e q; omega
  ·have := spans_bd h4 e q; omega
theorem cst_tree {t : Tr} (h : Ok 0 [] false t) (hl : t.len < 24) : cst t.prog = (t.cost + 1, max (t.piece 1 (0, 0)).1 ((t.piece 1 (0, 0)).2 + 1), t.spans) := by unfold cst; rw [cost_tree h hl]; rfl
end Go.Proofs.YteflacbgobpmcaaGreat.Ab

/- Who holds up whom: both answers. -/
namespace Go.Proofs.YteflacbgobpmcaaGreat.Ab
open Go.RowKit Tr
set_option linter.unusedSimpArgs false
set_option linter.unusedVariables false
abbrev t0 : Tk := (0, 0, 0, [], [], [])
def lockS (s : Int) (x : I4) : Bool := bif x.1 == 9 then x.2.1 == s else false
def locksT (s : Int) (t : Tk) : Bool := (t.2.2.2.1 ++ t.2.2.2.2.1).any (lockS s)
def ceilG (s : Int) : List Tk → Nat → Int
 | [], _ => 8
 | t :: r, i => bif locksT s t then (i : Int) else ceilG s r (i + 1)
def ceilT (l : List Tk) (s : Int) : Int := ceilG s l 0
theorem ceilG_idx (s : Int) : ∀ (l : List Tk) (i : Nat), ceilG s l i = match l.findIdx? (locksT s) with | some n => ((i + n : Nat) : Int) | none => 8
 | [], i => rfl
 | t :: r, i => by
  rw [ceilG, List.findIdx?_cons]
  cases locksT s t with
  | true => rfl
  | false =>
   rw [cond_false, ceilG_idx s r (i + 1)]
   simp only [Bool.false_eq_true, if_false]
   cases r.findIdx? (locksT s) with
   | none => rfl
   | some n => simp only [Option.map_some]; congr 1; omega
theorem L85_3_eq {k : Nat} (hk : 1000 ≤ k) {a b : List I4} (ha : a.length ≤ 900) (hb : b.length ≤ 900) (j : Nat) : L85_3 k (j + 3) [a, b] 0 [a, b] 2 0 = some ((a ++ b, ()), ()) := by
 have e1 : L85_11 k k ([] : List I4) [a, b] 2 0 = some ((a ++ b, ()), ()) := by
  have : ∀ j, L85_11 k (j + 3) ([] : List I4) [a, b] 2 0 = some ((a ++ b, ()), ()) := fun j => by
   rw [L85_11_s, l85_11, bif_t (by omega), ix_ok (by omega) (by simp), show rd [a, b] 0 [] = a from rfl, ap_ok (by simp only [List.length_nil]; omega), w64 (by omega) (by omega), List.nil_append]
   rw [L85_11_s, l85_11, bif_t (by omega), ix_ok (by omega) (by simp), show rd [a, b] (0 + 1) [] = b from rfl, ap_ok (by omega), w64 (by omega) (by omega)]
   rw [L85_11_s, l85_11, bif_f (by omega)]
  have := this (k - 3)
  rwa [show k - 3 + 3 = k by omega] at this
 rw [L85_3_s, l85_3, bif_t (by omega), ix_ok (by omega) (by simp), show rd [a, b] 0 [] = a from rfl, w64 (n := 0 + (a.length : Int)) (by omega) (by omega), bif_f (by omega), w64 (by omega) (by omega)]
 rw [L85_3_s, l85_3, bif_t (by omega), ix_ok (by omega) (by simp), show rd [a, b] (0 + 1) [] = b from rfl, w64 (n := 0 + (a.length : Int) + (b.length : Int)) (by omega) (by omega), bif_f (by omega), w64 (by omega) (by omega)]
 rw [L85_3_s, l85_3, bif_f (by omega)]
 unfold S124
 rw [bif_f (by omega), w64 (n := 0 + (a.length : Int) + (b.length : Int) - 0) (by omega) (by omega)]
 by_cases h0 : 0 + (a.length : Int) + (b.length : Int) - 0 > 0
 ·rw [bif_t h0]
  unfold az
  rw [if_pos (by rw [Bool.and_eq_true]; exact ⟨decide_eq_true (by omega), decide_eq_true (by simp only [List.length_nil]; omega)⟩)]
  dsimp only
  rw [sx_ok (by omega) (by omega) (by omega), Option.bind_some]
  exact e1
 ·rw [bif_f h0, Option.bind_some]; exact e1
theorem S85_eq {k : Nat} (hk : 1000 ≤ k) {a b : List I4} (ha : a.length ≤ 900) (hb : b.length ≤ 900) : S85 k [a, b] = some ((a ++ b, ()), ()) := by
 unfold S85
 have := L85_3_eq hk ha hb (k - 3)
 rwa [show k - 3 + 3 = k by omega] at this
def lightL (l : List Tk) : Prop := l.length ≤ 100 ∧ ∀ t ∈ l, lightT t ∧ (t.2.2.2.1 ++ t.2.2.2.2.1).length ≤ 900
theorem S65c_eq {k : Nat} (hk : 1000 ≤ k) {s : List I4} (h : s.length ≤ 900) (f : Int) : S65c k s f = some ((idxI (lockS f) s, ()), ()) := by
 unfold S65c
 refine idx_all (fun j i => L65c_2 k j s f (s.length : Int) i) s i0 _ (fun j i hi => ?_) (fun j => ?_) k (by omega)
 ·show L65c_2 k (j + 1) s f (s.length : Int) (i : Int) = _
  rw [L65c_2_s, l65c_2, bif_t (by omega), ix_nat hi, w64_nat (by omega), rd_nat]
  unfold S86 lockS
  cases (s.getD i i0).1 == 9 <;> rfl
 ·show L65c_2 k (j + 1) s f (s.length : Int) (s.length : Int) = _
  rw [L65c_2_s, l65c_2, bif_f (by omega)]
theorem S84_eq {k : Nat} (hk : 1000 ≤ k) {t : Tk} (h : lightT t) (h2 : (t.2.2.2.1 ++ t.2.2.2.2.1).length ≤ 900) (s : Int) : S84 k t s = some ((locksT s t, ()), ()) := by
 unfold S84 S62b
 rw [S85_eq hk h.1 h.2.1, Option.bind_some, S65c_eq hk h2]
 simp only [Option.bind_some, idx_ge]; rfl
theorem S53_eq {k : Nat} (hk : 1000 ≤ k) {l : List Tk} (h : lightL l) (s : Int) : S53 k l s = some ((ceilT l s, ()), ()) := by
 unfold S53 S18a
 have := idx_all (fun j i => L18a_2 k j l s (l.length : Int) i) l t0 (locksT s) (fun j i hi => by
  have ht := h.2 _ (getD_mem (z := t0) hi)
  have hl := h.1
  show L18a_2 k (j + 1) l s (l.length : Int) (i : Int) = _
  rw [L18a_2_s, l18a_2, bif_t (by omega), ix_nat hi, w64_nat (by omega), rd_nat, S84_eq hk ht.1 ht.2, Option.bind_some]) (fun j => by
  show L18a_2 k (j + 1) l s (l.length : Int) (l.length : Int) = _
  rw [L18a_2_s, l18a_2, bif_f (by omega)]) k (by have := h.1; omega)
 rw [show L18a_2 k k l s (l.length : Int) 0 = _ from this, Option.bind_some]
 unfold ceilT
 rw [ceilG_idx]
 unfold idxI
 cases l.findIdx? (locksT s) with
 | none => rfl
 | some n => simp only; rw [bif_f (by omega)]; congr 3; omega
theorem L77_6_eq {k : Nat} {g : List Tk → Int → Int → Option ((Int × Unit) × Unit)} {l : List Tk} {s : Int} {i : Nat} (hi : i ≤ 100) {code : List I4} (hc : code.length ≤ 900) (j : Nat) (hj : code.length < j) :
  L77_6 k g j l s (i : Int) code 0 = bif code.any (lockS s) then some (((i : Int), ()), ()) else g l s ((i + 1 : Nat) : Int) := by
 exact any_all (fun j n => L77_6 k g j l s (i : Int) code n) code i0 (lockS s) (some (((i : Int), ()), ())) (g l s ((i + 1 : Nat) : Int)) (fun j n hn => by
  show L77_6 k g (j + 1) l s (i : Int) code (n : Int) = _
  rw [L77_6_s, l77_6, bif_t (by omega), ix_nat hn, ix_nat hn, rd_nat, w64_nat (by omega)]
  unfold lockS
  cases (code.getD n i0).1 == 9 with
  | true => cases (code.getD n i0).2.1 == s <;> rfl
  | false => rfl) (fun j => by
  show L77_6 k g (j + 1) l s (i : Int) code (code.length : Int) = _
  rw [L77_6_s, l77_6, bif_f (by omega), w64_nat (by omega)]) j hj
theorem L77_2_eq {k : Nat} (hk : 1000 ≤ k) {l : List Tk} (h : lightL l) {s : Int} : ∀ (d i j : Nat), i + d = l.length → d < j → L77_2 k j l s (i : Int) = some ((ceilG s (l.drop i) i, ()), ())
 | 0, i, j, h1, hj => by
  obtain ⟨j', rfl⟩ : ∃ j', j = j' + 1 := ⟨j - 1, by omega⟩
  rw [L77_2_s, l77_2, bif_f (by omega), drop_nil (by omega), ceilG]
 | d + 1, i, j, h1, hj => by
  obtain ⟨j', rfl⟩ : ∃ j', j = j' + 1 := ⟨j - 1, by omega⟩
  have ih := L77_2_eq hk h (s := s) d (i + 1) j' (by omega) (by omega)
  have ht := h.2 _ (getD_mem (z := t0) (l := l) (i := i) (by omega))
  have hl := h.1
  have hlt := ht.1
  unfold lightT at hlt
  have e : l.getD i (0, 0, 0, [], [], []) = l.getD i t0 := rfl
  rw [L77_2_s, l77_2, bif_t (by omega), ix_nat (by omega), rd_nat, e, ap_ok (by simp only [List.length_nil]; omega), ix_nat (by omega), List.nil_append, ap_ok (by omega), L77_6_eq (by omega) ht.2 k (by omega), drop_cons t0 (show i < l.length by omega), ceilG, ih]
  unfold locksT
  cases ((l.getD i t0).2.2.2.1 ++ (l.getD i t0).2.2.2.2.1).any (lockS s) <;> rfl
theorem S77_eq {k : Nat} (hk : 1000 ≤ k) {l : List Tk} (h : lightL l) (s : Int) : S77 k l s = some ((ceilT l s, ()), ()) := by
 have := h.1
 exact L77_2_eq hk h l.length 0 k (by omega) (by omega)
def spF (l : List Tk) (i : Int) : Int → List (Int × Int) → Int
 | m, [] => m
 | m, e :: r => spF l i (bif decide (ceilT l e.1 ≤ i) then mx m e.2 else m) r
noncomputable def byG (l : List Tk) (i : Int) : List Tk → Nat → Int → Int
 | [], _, m => m
 | t :: r, n, m => byG l i r (n + 1) (bif (n : Int) == i then m else spF l i m (costsT t).2.2)
noncomputable def byT (l : List Tk) (i : Int) : Int := byG l i l 0 0
theorem L43_8_eq {k : Nat} (hk : 1000 ≤ k) {g : List Tk → Int → Int → Int → Option ((Int × Unit) × Unit)} {l : List Tk} (h : lightL l) {i : Int} {n : Nat} (hn : n ≤ 100) {sp : List (Int × Int)} (hs : sp.length ≤ 900) : ∀ (d a j : Nat) (m : Int), a + d = sp.length → d < j →
  L43_8 k g j l i m (n : Int) sp (a : Int) = g l i (spF l i m (sp.drop a)) ((n + 1 : Nat) : Int)
 | 0, a, j, m, h1, hj => by
  obtain ⟨j', rfl⟩ : ∃ j', j = j' + 1 := ⟨j - 1, by omega⟩
  rw [L43_8_s, l43_8, bif_f (by omega), drop_nil (by omega), spF, w64_nat (by omega)]
 | d + 1, a, j, m, h1, hj => by
  obtain ⟨j', rfl⟩ : ∃ j', j = j' + 1 := ⟨j - 1, by omega⟩
  have ih := fun m => L43_8_eq hk (g := g) h (i := i) hn hs d (a + 1) j' m (by omega) (by omega)
  rw [L43_8_s, l43_8, bif_t (by omega), ix_nat (by omega), rd_nat, S77_eq hk h, Option.bind_some, w64_nat (by omega), drop_cons (0, 0) (show a < sp.length by omega), spF]
  simp only
  cases decide (ceilT l (sp.getD a (0, 0)).1 ≤ i) with
  | true => rw [cond_true, cond_true, ix_nat (by omega), ih]
  | false => rw [cond_false, cond_false, ih]
theorem L43_3_eq {k : Nat} (hk : 1000 ≤ k) {l : List Tk} (h : lightL l) {i : Int} : ∀ (d n j : Nat) (m : Int), n + d = l.length → d < j → L43_3 k j l i m (n : Int) = some ((byG l i (l.drop n) n m, ()), ())
 | 0, n, j, m, h1, hj => by
  obtain ⟨j', rfl⟩ : ∃ j', j = j' + 1 := ⟨j - 1, by omega⟩
  rw [L43_3_s, l43_3, bif_f (by omega), drop_nil (by omega), byG]
 | d + 1, n, j, m, h1, hj => by
  obtain ⟨j', rfl⟩ : ∃ j', j = j' + 1 := ⟨j - 1, by omega⟩
  have ih := fun m => L43_3_eq hk h (i := i) d (n + 1) j' m (by omega) (by omega)
  have ht := h.2 _ (getD_mem (z := t0) (l := l) (i := n) (by omega))
  have hl := h.1
  have hcl := costsT_len (l.getD n t0)
  rw [L43_3_s, l43_3, bif_t (by omega), w64_nat (by omega), drop_cons t0 (show n < l.length by omega), byG]
  cases (n : Int) == i with
  | true => rw [cond_true, cond_true, ih]
  | false =>
   rw [cond_false, cond_false, ix_nat (by omega), rd_nat, show l.getD n (0, 0, 0, [], [], []) = l.getD n t0 from rfl, S44_eq hk ht.1, Option.bind_some]
   exact (L43_8_eq hk h (by omega) (sp := (costsT (l.getD n t0)).2.2) (by omega) _ 0 k m (Nat.zero_add _) (by omega)).trans (ih _)
theorem S43_eq {k : Nat} (hk : 1000 ≤ k) {l : List Tk} (h : lightL l) (i : Int) : S43 k l i = some ((byT l i, ()), ()) := by
 have := h.1
 exact L43_3_eq hk h l.length 0 k 0 (by omega) (by omega)
def CI (l : List Tk) (c : List (Int × Int)) : Prop := ∀ x v, lookD (.int .i64) (.int .i64) x c = some v → v = ceilT l x
theorem ibeq : ∀ a b : (Ty.int .i64).D, beqD (.int .i64) a b = true ↔ a = b := fun a b => by simp [beqD]
theorem CI_upd {l : List Tk} {c : List (Int × Int)} (h : CI l c) (x : Int) : CI l (updD (.int .i64) (.int .i64) x (ceilT l x) c) := fun y v hv => by
 rw [lookD_upd (hb := ibeq)] at hv
 split at hv
 ·rename_i e
  have : y = x := by simpa [beqD] using e
  rw [this]; injection hv with hv; exact hv.symm
 ·exact h y v hv
theorem CI_get {l : List Tk} {c : List (Int × Int)} (h : CI l c) {x : Int} (hx : mhas (.int .i64) (.int .i64) x c = true) : mget (.int .i64) (.int .i64) x c 0 = ceilT l x := by
 unfold mhas at hx; unfold mget
 cases e : lookD (.int .i64) (.int .i64) x c with
 | none => rw [e] at hx; cases hx
 | some v => exact h x v e
theorem has_upd {x v : Int} {c : List (Int × Int)} : mhas (.int .i64) (.int .i64) x (updD (.int .i64) (.int .i64) x v c) = true := by
 unfold mhas; rw [lookD_upd (hb := ibeq), if_pos (by simp [beqD])]; rfl
theorem L29_8_eq {k : Nat} (hk : 1000 ≤ k) {g : List Tk → Int → Int → List (Int × Int) → List Tk → Int → Int → Option ((Int × Unit) × Unit)} {l : List Tk} (h : lightL l) {i : Int} {n : Nat} (hn : n ≤ 100) {sp : List (Int × Int)} (hs : sp.length ≤ 900) {tt : List Tk} {tn : Int} : ∀ (d a j : Nat) (m : Int) (c : List (Int × Int)), a + d = sp.length → d < j → CI l c →
  ∃ c', CI l c' ∧ L29_8 k g j l i m c tt tn (n : Int) sp (sp.length : Int) (a : Int) = g l i (spF l i m (sp.drop a)) c' tt tn ((n + 1 : Nat) : Int)
 | 0, a, j, m, c, h1, hj, hc => by
  obtain ⟨j', rfl⟩ : ∃ j', j = j' + 1 := ⟨j - 1, by omega⟩
  refine ⟨c, hc, ?_⟩
  rw [L29_8_s, l29_8, bif_f (by omega), drop_nil (by omega), spF, w64_nat (by omega)]
 | d + 1, a, j, m, c, h1, hj, hc => by
  obtain ⟨j', rfl⟩ : ∃ j', j = j' + 1 := ⟨j - 1, by omega⟩
  have ih := fun m c => L29_8_eq hk (g := g) h (i := i) hn hs (tt := tt) (tn := tn) d (a + 1) j' m c (by omega) (by omega)
  rw [L29_8_s, l29_8, bif_t (by omega), ix_nat (by omega), rd_nat, drop_cons (0, 0) (show a < sp.length by omega), spF]
  have jn : ∀ c1, CI l c1 → mhas (.int .i64) (.int .i64) (sp.getD a (0, 0)).1 c1 = true → ∃ c', CI l c' ∧ j29_13 k g (L29_8 k g j') l i m c1 (sp.getD a (0, 0)).1 (sp.getD a (0, 0)).2 tt tn (n : Int) sp (sp.length : Int) (a : Int) = g l i (spF l i (bif decide (ceilT l (sp.getD a (0, 0)).1 ≤ i) then mx m (sp.getD a (0, 0)).2 else m) (sp.drop (a + 1))) c' tt tn ((n + 1 : Nat) : Int) := fun c1 h1 h2 => by
   unfold j29_13
   rw [CI_get h1 h2, w64_nat (by omega)]
   cases decide (ceilT l (sp.getD a (0, 0)).1 ≤ i) with
   | true => exact ih _ _ h1
   | false => exact ih _ _ h1
  cases hx : mhas (.int .i64) (.int .i64) (sp.getD a (0, 0)).1 c with
  | true => rw [Bool.not_true, cond_false]; exact jn c hc hx
  | false =>
   rw [Bool.not_false, cond_true, S53_eq hk h, Option.bind_some]
   exact jn _ (CI_upd hc _) has_upd
theorem L29_3_eq {k : Nat} (hk : 1000 ≤ k) {l : List Tk} (h : lightL l) {i : Int} : ∀ (d n j : Nat) (m : Int) (c : List (Int × Int)), n + d = l.length → d < j → CI l c → L29_3 k j l i m c l (l.length : Int) (n : Int) = some ((byG l i (l.drop n) n m, ()), ())
 | 0, n, j, m, c, h1, hj, hc => by
  obtain ⟨j', rfl⟩ : ∃ j', j = j' + 1 := ⟨j - 1, by omega⟩
  rw [L29_3_s, l29_3, bif_f (by omega), drop_nil (by omega), byG]
 | d + 1, n, j, m, c, h1, hj, hc => by
  obtain ⟨j', rfl⟩ : ∃ j', j = j' + 1 := ⟨j - 1, by omega⟩
  have ih := fun m c => L29_3_eq hk h (i := i) d (n + 1) j' m c (by omega) (by omega)
  have ht := h.2 _ (getD_mem (z := t0) (l := l) (i := n) (by omega))
  have hl := h.1
  have hcl := costsT_len (l.getD n t0)
  rw [L29_3_s, l29_3, bif_t (by omega), ix_nat (by omega), w64_nat (by omega), drop_cons t0 (show n < l.length by omega), byG]
  cases (n : Int) == i with
  | true => rw [cond_true, cond_true, ih _ _ hc]
  | false =>
   rw [cond_false, cond_false, rd_nat, show l.getD n (0, 0, 0, [], [], []) = l.getD n t0 from rfl, S27_eq hk ht.1, Option.bind_some]
   obtain ⟨c', hc', e⟩ := L29_8_eq hk (g := L29_3 k j') h (i := i) (n := n) (by omega) (sp := (costsT (l.getD n t0)).2.2) (by omega) (tt := l) (tn := (l.length : Int)) _ 0 k m c (Nat.zero_add _) (by omega) hc
   exact e.trans (ih _ _ hc')
theorem S29_eq {k : Nat} (hk : 1000 ≤ k) {l : List Tk} (h : lightL l) (i : Int) : S29 k l i = some ((byT l i, ()), ()) := by
 have := h.1
 exact L29_3_eq hk h l.length 0 k 0 [] (by omega) (by omega) (fun x v hv => by cases hv)
end Go.Proofs.YteflacbgobpmcaaGreat.Ab

/- Rows of made tasks; the law of all rows. -/
namespace Go.Proofs.YteflacbgobpmcaaGreat.Ab
open Go.RowKit Tr
set_option linter.unusedSimpArgs false
set_option linter.unusedVariables false
structure RowOK (locks : Int) (l : List Tk) : Prop where
 mt : ∀ j, j < l.length → ∃ r, MT locks r (l.getD j t0) ∧ 3 * (j : Int) ≤ r ∧ r ≤ 3 * (j : Int) + 2
 may : ∀ j, j < l.length → mayT (l.getD j t0) = 0
theorem MT.code {locks rank : Int} {t : Tk} (h : MT locks rank t) : (t.2.2.2.1 ++ t.2.2.2.2.1).length ≤ 30 := by
 obtain ⟨m, e, _, hm⟩ := h.main
 rw [List.length_append, e, prog_len]
 rcases h.way with e | e | e <;> rw [e] <;> simp <;> omega
theorem RowOK.light {locks : Int} {l : List Tk} (h : RowOK locks l) (hl : l.length ≤ 100) : lightL l := ⟨hl, fun t ht => by
 obtain ⟨j, hj, e⟩ := List.mem_iff_getElem.1 ht
 obtain ⟨r, hm, _⟩ := h.mt j hj
 have e2 : l.getD j t0 = t := by rw [← e, List.getD_eq_getElem?_getD, List.getElem?_eq_getElem hj]; rfl
 rw [e2] at hm
 exact ⟨hm.light, by have := hm.code; omega⟩⟩
end Go.Proofs.YteflacbgobpmcaaGreat.Ab

/- What ceilings are; the law of ceilings. -/
namespace Go.Proofs.YteflacbgobpmcaaGreat.Ab
open Go.RowKit Tr
set_option linter.unusedSimpArgs false
set_option linter.unusedVariables false
theorem ceilG_case (s : Int) : ∀ (l : List Tk) (i : Nat), ceilG s l i = 8 ∧ (∀ n, n < l.length → locksT s (l.getD n t0) = false) ∨ ∃ n, n < l.length ∧ ceilG s l i = ((i + n : Nat) : Int) ∧ locksT s (l.getD n t0) = true
 | [], i => .inl ⟨rfl, fun n h => by simp at h⟩
 | t :: r, i => by
  rw [ceilG]
  cases h : locksT s t with
  | true => exact .inr ⟨0, by simp, rfl, h⟩
  | false =>
   rw [cond_false]
   rcases ceilG_case s r (i + 1) with ⟨e, q⟩ | ⟨n, h1, h2, h3⟩
   ·refine .inl ⟨e, fun n hn => ?_⟩
    cases n with
    | zero => exact h
    | succ n => exact q n (by simp only [List.length_cons] at hn; omega)
   ·exact .inr ⟨n + 1, by simp only [List.length_cons]; omega, by rw [h2]; congr 1; omega, h3⟩
theorem ceilG_le (s : Int) : ∀ (l : List Tk) (i n : Nat), n < l.length → locksT s (l.getD n t0) = true → ceilG s l i ≤ ((i + n : Nat) : Int)
 | [], i, n, h, _ => by simp at h
 | t :: r, i, n, h, hl => by
  rw [ceilG]
  cases ht : locksT s t with
  | true => rw [cond_true]; omega
  | false =>
   rw [cond_false]
   cases n with
   | zero => rw [show (t :: r).getD 0 t0 = t from rfl, ht] at hl; cases hl
   | succ n =>
    have := ceilG_le s r (i + 1) n (by simp only [List.length_cons] at h; omega) hl
    omega
end Go.Proofs.YteflacbgobpmcaaGreat.Ab

/- Who locks nothing holds up nobody. -/
namespace Go.Proofs.YteflacbgobpmcaaGreat.Ab
open Go.RowKit Tr
set_option linter.unusedSimpArgs false
set_option linter.unusedVariables false
theorem mx_ge (a b : Int) : a ≤ mx a b := by unfold mx; split <;> omega
theorem spF_ge {l : List Tk} {i : Int} : ∀ (sp : List (Int × Int)) (m : Int), m ≤ spF l i m sp
 | [], m => Int.le_refl _
 | e :: r, m => by
  rw [spF]
  cases decide (ceilT l e.1 ≤ i) with
  | true => exact Int.le_trans (mx_ge m e.2) (spF_ge r _)
  | false => exact spF_ge r m
theorem byG_ge {l : List Tk} {i : Int} : ∀ (r : List Tk) (n : Nat) (m : Int), m ≤ byG l i r n m
 | [], n, m => Int.le_refl _
 | t :: r, n, m => by
  rw [byG]
  cases (n : Int) == i with
  | true => exact byG_ge r _ m
  | false => exact Int.le_trans (spF_ge _ m) (byG_ge r _ _)
end Go.Proofs.YteflacbgobpmcaaGreat.Ab
