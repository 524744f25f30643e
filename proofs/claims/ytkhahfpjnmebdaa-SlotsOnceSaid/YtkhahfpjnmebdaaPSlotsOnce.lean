import Derived.Test.YtkhahfpjnmebdaaPSlotsAll
/- The law SlotsOnce, of plain lists. -/
set_option linter.unusedVariables false
set_option linter.unusedSimpArgs false
namespace Go.Proofs.Ytkhahfpjnmebdaa.Ab
open Go.RowKit

abbrev tg (t : List (Int × Int)) (m : Nat) : Int × Int := t.getD m (0, 0)
abbrev hg (h : List Bool) (m : Nat) : Bool := h.getD m false

theorem has_nat {a : List Int} {b : List Bool} (he : a.length = b.length) {x : Nat} (hx : x < a.length) {g : Int} : hasF (a, b) ((x : Int), g) = (b.getD x false && (a.getD x 0 == g)) := by
  unfold hasF hasN mins
  have h1 : decide (0 ≤ (x : Int)) = true := by simp
  have h2 : decide ((x : Int) < ((min a.length b.length : Nat) : Int)) = true := by simp only [decide_eq_true_eq]; omega
  simp only
  rw [h1, h2, Int.toNat_natCast]
  simp

/-- What holds of a run: what was told, what is had. -/
structure RunI (a : List Int) (b : List Bool) (t : List (Int × Int)) (h : List Bool) (i : Nat) : Prop where
  len : a.length = b.length
  small : a.length ≤ 64
  tl : t.length = h.length
  ti : t.length ≤ i
  cnt : ∀ x : Nat, 0 ≤ a.getD x 0 ∧ a.getD x 0 ≤ (i : Int)
  told : ∀ m, m < t.length → ∃ x : Nat, (tg t m).1 = (x : Int) ∧ x < a.length ∧ (tg t m).2 ≤ a.getD x 0
  has : ∀ m, m < t.length → hg h m = hasF (a, b) (tg t m)
  apart : ∀ m q, m < q → q < t.length → tg t m ≠ tg t q

theorem RunI.sm {a : List Int} {b : List Bool} {t : List (Int × Int)} {h : List Bool} {i : Nat} (I : RunI a b t h i) : Sm (a, b) := ⟨by have := I.small; simp only; omega, by have := I.small; have := I.len; simp only; omega⟩
theorem RunI.mins {a : List Int} {b : List Bool} {t : List (Int × Int)} {h : List Bool} {i : Nat} (I : RunI a b t h i) : mins (a, b) = a.length := by
  have := I.len; unfold Ab.mins; simp only; omega

theorem fst_free : ∀ (l : List Bool) (n : Nat), (fst false l n = -1 ∧ cnt l l.length = l.length) ∨ ∃ m, m < l.length ∧ fst false l n = ((n + m : Nat) : Int) ∧ l.getD m true = false
  | l, n => by
    have key : ∀ (l : List Bool) (n : Nat), (fst false l n = -1 ∧ ∀ m, m < l.length → l.getD m false = true) ∨ ∃ m, m < l.length ∧ fst false l n = ((n + m : Nat) : Int) ∧ l.getD m true = false := by
      intro l
      induction l with
      | nil => intro n; exact .inl ⟨rfl, fun m hm => by simp at hm⟩
      | cons x r ih =>
        intro n
        simp only [fst]
        cases x with
        | false => exact .inr ⟨0, by simp, by simp, rfl⟩
        | true =>
          simp only [Bool.false_eq_true, if_false]
          rcases ih (n + 1) with ⟨h1, h2⟩ | ⟨m, h1, h2, h3⟩
          · refine .inl ⟨h1, fun m hm => ?_⟩
            cases m with
            | zero => rfl
            | succ m => simpa using h2 m (by simpa using hm)
          · exact .inr ⟨m + 1, by simpa using h1, by rw [h2]; omega, by simpa using h3⟩
    rcases key l n with ⟨h1, h2⟩ | h
    · refine .inl ⟨h1, ?_⟩
      have : ∀ q, q ≤ l.length → cnt l q = q := by
        intro q
        induction q with
        | zero => intro _; rfl
        | succ q ih => intro hq; simp only [cnt]; rw [h2 q (by omega), ih (by omega)]; rfl
      exact this _ (Nat.le_refl _)
    · exact .inr h

theorem cnt_lt (l : List Bool) : ∀ {m n : Nat}, m < n → l.getD m false = false → cnt l n < n
  | m, 0, h, _ => by omega
  | m, n + 1, h, hf => by
    simp only [cnt]
    have h1 := cnt_le l n
    by_cases e : m = n
    · subst e; rw [hf]; simp; omega
    · have := cnt_lt l (m := m) (n := n) (by omega) hf
      split <;> omega

theorem snoc_get {α : Type} {l : List α} {v z : α} {m : Nat} (hm : m < l.length + 1) : (l ++ [v]).getD m z = if m = l.length then v else l.getD m z := by
  simp only [List.getD_eq_getElem?_getD]
  by_cases h : m = l.length
  · subst h; simp
  · rw [List.getElem?_append_left (by omega)]; simp [h]

/-- A take. -/
theorem RunI.take {a : List Int} {b : List Bool} {t : List (Int × Int)} {h : List Bool} {i : Nat} (I : RunI a b t h i) (hi : i < 1000) :
    ((takeF (a, b)).2.2.1 = decide (((Ab.cnt b (Ab.mins (a, b)) : Nat) : Int) < (a.length : Int))) ∧
    ((takeF (a, b)).2.2.1 = false → RunI (takeF (a, b)).1.1 (takeF (a, b)).1.2 t h (i + 1)) ∧
    ((takeF (a, b)).2.2.1 = true → RunI (takeF (a, b)).1.1 (takeF (a, b)).1.2 (t ++ [((takeF (a, b)).2.1.1, (takeF (a, b)).2.1.2)]) (h ++ [true]) (i + 1)) := by
  have hm := I.mins
  have hlen := I.len
  have htk : b.take (Ab.mins (a, b)) = b := List.take_of_length_le (by omega)
  unfold takeF
  simp only
  rw [htk]
  rcases fst_free b 0 with ⟨h1, h2⟩ | ⟨m, h1, h2, h3⟩
  · rw [h1]
    have hr : takeR (a, b) (-1) = ((a, b), (0, 0), false, ()) := rfl
    rw [hr]
    refine ⟨?_, fun _ => ?_, fun h => by cases h⟩
    · rw [hm, hlen, h2]; simp
    · exact ⟨I.len, I.small, I.tl, by have := I.ti; omega, fun x => by show 0 ≤ a.getD x 0 ∧ a.getD x 0 ≤ _; have := I.cnt x; omega, I.told, I.has, I.apart⟩
  · rw [Nat.zero_add] at h2
    rw [h2]
    have hbm : b.getD m false = false := by rw [getD_in h1] at h3 ⊢; exact h3
    have ham := I.cnt m
    have hw : IntKind.i64.wrap (a.getD m 0 + 1) = a.getD m 0 + 1 := w64 (by omega) (by omega)
    have hr : takeR (a, b) (m : Int) = ((a.set m (a.getD m 0 + 1), b.set m true), ((m : Int), a.getD m 0 + 1), true, ()) := by
      unfold takeR
      rw [if_neg (by omega)]
      simp only [Int.toNat_natCast, hw]
    rw [hr]
    refine ⟨?_, fun h => by (simp only at h; cases h), fun _ => ?_⟩
    · have := cnt_lt b h1 hbm
      rw [hm, hlen]
      simp only
      rw [decide_eq_true]
      omega
    · have hma : m < a.length := by omega
      have hlen' : (a.set m (a.getD m 0 + 1)).length = (b.set m true).length := by simp; exact hlen
      refine ⟨hlen', by simp; exact I.small, by simp; exact I.tl, by have := I.ti; simp; omega, fun x => ?_, fun q hq => ?_, fun q hq => ?_, fun p q hpq hq => ?_⟩
      · rw [set_get]
        have := I.cnt x
        have := I.cnt m
        split <;> omega
      · simp only [List.length_append, List.length_singleton] at hq
        simp only [tg, List.length_set]
        rw [snoc_get hq]
        split
        · exact ⟨m, rfl, hma, by rw [set_get]; simp [hma]⟩
        · rename_i hne
          obtain ⟨x, h4, h5, h6⟩ := I.told q (by omega)
          refine ⟨x, h4, h5, ?_⟩
          rw [set_get]
          split
          · rename_i hx; have := hx.1; subst this; simp only [tg] at h6; omega
          · exact h6
      · simp only [List.length_append, List.length_singleton] at hq
        simp only [tg, hg]
        rw [snoc_get hq, snoc_get (by rw [← I.tl]; exact hq)]
        by_cases e : q = t.length
        · rw [if_pos e, if_pos (by rw [← I.tl]; exact e)]
          rw [has_nat hlen' (by simp; exact hma), set_get, set_get]
          simp [hma, h1]
        · rw [if_neg e, if_neg (by rw [← I.tl]; exact e)]
          have hq' : q < t.length := by omega
          obtain ⟨x, h4, h5, h6⟩ := I.told q hq'
          have h7 := I.has q hq'
          simp only [tg, hg] at h4 h6 h7
          rw [h7]
          have e1 : t.getD q (0, 0) = ((x : Int), (t.getD q (0, 0)).2) := Prod.ext h4 rfl
          rw [e1, has_nat hlen h5, has_nat hlen' (by simp; exact h5), set_get, set_get]
          by_cases ex : m = x
          · subst ex
            rw [hbm]
            rw [if_pos ⟨rfl, h1⟩, if_pos ⟨rfl, hma⟩]
            have : (a.getD m 0 + 1 == (t.getD q (0, 0)).2) = false := by
              simp only [beq_eq_false_iff_ne]; omega
            rw [this]; rfl
          · simp [ex]
      · simp only [List.length_append, List.length_singleton] at hq
        simp only [tg]
        rw [snoc_get (by omega), snoc_get hq, if_neg (by omega)]
        by_cases e : q = t.length
        · rw [if_pos e]
          obtain ⟨x, h4, h5, h6⟩ := I.told p (by omega)
          simp only [tg] at h4 h6
          intro hc
          rw [hc] at h4 h6
          simp only at h4 h6
          have : x = m := by omega
          subst this
          omega
        · rw [if_neg e]
          exact I.apart p q hpq (by omega)

/-- A place let go. -/
theorem RunI.free {a : List Int} {b : List Bool} {t : List (Int × Int)} {h : List Bool} {i : Nat} (I : RunI a b t h i) {q : Nat} (hq : q < t.length) :
    (freeF (a, b) (tg t q)).2.1 = hg h q ∧ RunI (freeF (a, b) (tg t q)).1.1 (freeF (a, b) (tg t q)).1.2 t (h.set q false) (i + 1) := by
  have h7 := I.has q hq
  have hlen := I.len
  unfold freeF
  obtain ⟨x, h4, h5, h6⟩ := I.told q hq
  have e1 : tg t q = ((x : Int), (tg t q).2) := Prod.ext h4 rfl
  cases hh : hasF (a, b) (tg t q) with
  | false =>
    simp only [Bool.false_eq_true, if_false]
    refine ⟨by rw [h7, hh], ⟨I.len, I.small, by simp; exact I.tl, by have := I.ti; omega, fun x => by have := I.cnt x; omega, I.told, fun m hm => ?_, I.apart⟩⟩
    simp only [hg]
    rw [set_get]
    split
    · rename_i hx; have := hx.1; subst this; exact hh.symm
    · exact I.has m hm
  | true =>
    simp only [if_true]
    refine ⟨by rw [h7, hh], ?_⟩
    have hx1 : (tg t q).1.toNat = x := by omega
    rw [hx1]
    have hh' := hh
    rw [e1, has_nat hlen h5, Bool.and_eq_true, beq_iff_eq] at hh'
    have hlen' : a.length = (b.set x false).length := by simp; exact hlen
    refine ⟨hlen', I.small, by simp; exact I.tl, by have := I.ti; omega, fun x => by have := I.cnt x; omega, I.told, fun m hm => ?_, I.apart⟩
    obtain ⟨y, g4, g5, g6⟩ := I.told m hm
    have e2 : tg t m = ((y : Int), (tg t m).2) := Prod.ext g4 rfl
    simp only [hg]
    rw [set_get, e2, has_nat hlen' g5, set_get]
    by_cases em : q = m
    · subst em
      have : x = y := by omega
      subst this
      rw [if_pos ⟨rfl, by rw [← I.tl]; exact hm⟩, if_pos ⟨rfl, by omega⟩]
      rfl
    · rw [if_neg (by omega)]
      have h8 := I.has m hm
      simp only [hg] at h8
      rw [h8, e2, has_nat hlen g5]
      by_cases exy : x = y
      · subst exy
        rw [if_pos ⟨rfl, by omega⟩]
        have hne : ¬ a.getD x 0 = (tg t m).2 := by
          intro hc
          have : tg t q = tg t m := by rw [e1, e2]; rw [← hh'.2, ← hc]
          rcases Nat.lt_or_gt_of_ne em with hl | hl
          · exact I.apart q m hl hm this
          · exact I.apart m q hl hq this.symm
        have : (a.getD x 0 == (tg t m).2) = false := by simpa using hne
        simp only
        rw [this]; simp
      · rw [if_neg (by omega)]

theorem L29 {k : Nat} {g9 : Int → List Int → List Int → List Bool → List (Int × Int) → List Bool → Int → Option ((Bool × Unit) × Unit)} {g24 : Int → List Int → List Int → List Bool → List (Int × Int) → List Bool → Int → Int → Option ((Bool × Unit) × Unit)}
    {n1 : Int} {l a : List Int} {b h : List Bool} {t : List (Int × Int)} {i q : Nat} (hq : q < t.length) (ht : t.length ≤ 1000) (hap : ∀ m, m < q → tg t m ≠ tg t q)
    (hg : g24 n1 l a b t h (i : Int) ((q + 1 : Nat) : Int) = some ((true, ()), ())) :
    ∀ d m j : Nat, m + d = q → d < j → L4_29 k g9 g24 j n1 l a b t h (i : Int) (q : Int) (m : Int) = some ((true, ()), ())
  | 0, m, j, hm, hj => by
    obtain ⟨j, rfl⟩ : ∃ m, j = m + 1 := ⟨j - 1, by omega⟩
    rw [L4_29_s]; unfold l4_29
    rw [bif_f (by omega), w64_nat (by omega)]
    exact hg
  | d + 1, m, j, hm, hj => by
    obtain ⟨j, rfl⟩ : ∃ m, j = m + 1 := ⟨j - 1, by omega⟩
    rw [L4_29_s]; unfold l4_29
    rw [bif_t (by omega), ix_nat (by omega), ix_nat hq, rd_nat, rd_nat, w64_nat (by omega), L29 hq ht hap hg d (m + 1) j (by omega) (by omega)]
    have h1 := hap m (by omega)
    have : beqD (.pair (.int .i64) (.int .i64)) (t.getD m (0, 0)) (t.getD q (0, 0)) = false := by
      cases hc : beqD (.pair (.int .i64) (.int .i64)) (t.getD m (0, 0)) (t.getD q (0, 0)) with
      | false => rfl
      | true =>
        simp only [beqD, Bool.and_eq_true, beq_iff_eq] at hc
        exact absurd (Prod.ext hc.1 hc.2) h1
    rw [this]; rfl

theorem L24 {k : Nat} (hk : 200 ≤ k) {g9 : Int → List Int → List Int → List Bool → List (Int × Int) → List Bool → Int → Option ((Bool × Unit) × Unit)} {n1 : Int} {l a : List Int} {b h : List Bool} {t : List (Int × Int)} {i i' : Nat} (I : RunI a b t h i') (hi' : i' ≤ 100) (hi : i < 1000)
    (hg9 : g9 n1 l a b t h ((i + 1 : Nat) : Int) = some ((true, ()), ())) :
    ∀ d q j : Nat, q + d = t.length → d < j → L4_24 k g9 j n1 l a b t h (i : Int) (q : Int) = some ((true, ()), ())
  | 0, q, j, hm, hj => by
    obtain ⟨j, rfl⟩ : ∃ m, j = m + 1 := ⟨j - 1, by omega⟩
    rw [L4_24_s]; unfold l4_24
    rw [bif_f (by omega), w64_nat (by omega)]
    exact hg9
  | d + 1, q, j, hm, hj => by
    obtain ⟨j, rfl⟩ : ∃ m, j = m + 1 := ⟨j - 1, by omega⟩
    have ti := I.ti
    have hq : q < t.length := by omega
    rw [L4_24_s]; unfold l4_24
    rw [bif_t (by omega), ix_nat hq, S15_eq hk I.sm]
    simp only [Option.bind_some]
    rw [ix_nat (by rw [← I.tl]; exact hq), rd_nat, rd_nat]
    have h7 := I.has q hq
    simp only [tg, hg] at h7
    rw [h7]
    simp only [beq_self_eq_true, Bool.not_true, cond_false]
    have := L29 (k := k) (g9 := g9) (i := i) hq (by omega) (fun m hm => I.apart m q hm hq) (L24 hk I hi' hi hg9 d (q + 1) j (by omega) (by omega)) q 0 k (by omega) (by omega)
    exact this

theorem L9 {k : Nat} (hk : 200 ≤ k) {n1 : Int} {l : List Int} (hl : l.length ≤ 60) (hf : ∀ q ∈ l, 0 ≤ q ∧ q ≤ 255) :
    ∀ (d i j : Nat) (a : List Int) (b : List Bool) (t : List (Int × Int)) (h : List Bool), RunI a b t h i → (a.length : Int) = IntKind.i64.wrap (Int.tmod n1 9) → i + d = l.length → d < j → L4_9 k j n1 l a b t h (i : Int) = some ((true, ()), ())
  | 0, i, j, a, b, t, h, I, hn, hd, hj => by
    obtain ⟨j, rfl⟩ : ∃ m, j = m + 1 := ⟨j - 1, by omega⟩
    rw [L4_9_s]; unfold l4_9
    rw [bif_f (by omega)]
  | d + 1, i, j, a, b, t, h, I, hn, hd, hj => by
    obtain ⟨j, rfl⟩ : ∃ m, j = m + 1 := ⟨j - 1, by omega⟩
    have hi : i < l.length := by omega
    have tk := take_sm I.sm
    simp only at tk
    have take : j4_15 k (L4_9 k j) n1 l a b t h (i : Int) (takeF (a, b)).1.1 (takeF (a, b)).1.2 (takeF (a, b)).2.1.1 (takeF (a, b)).2.1.2 (takeF (a, b)).2.2.1 = some ((true, ()), ()) := by
      obtain ⟨_, I1, I2⟩ := I.take (by omega)
      unfold j4_15
      have ti := I.ti
      have tl := I.tl
      cases hok : (takeF (a, b)).2.2.1 with
      | true =>
        have I2 := I2 hok
        simp only [cond_true]
        rw [ap_ok (by simp; omega), ap_ok (by simp; omega)]
        exact L24 hk I2 (by omega) (by omega) (L9 hk hl hf d (i + 1) j _ _ _ _ I2 (by rw [tk.1]; exact hn) (by omega) (by omega)) _ 0 k (by rw [Nat.zero_add]) (by simp; omega)
      | false =>
        have I1 := I1 hok
        simp only [cond_false]
        exact L24 hk I1 (by omega) (by omega) (L9 hk hl hf d (i + 1) j _ _ _ _ I1 (by rw [tk.1]; exact hn) (by omega) (by omega)) _ 0 k (by rw [Nat.zero_add]) (by omega)
    have hok := (I.take (by omega)).1
    rw [L4_9_s]; unfold l4_9
    rw [bif_t (by omega), ix_nat hi]
    have hchk : ((takeF (a, b)).2.2.1 == decide (((cnt b (mins (a, b)) : Nat) : Int) < IntKind.i64.wrap (Int.tmod n1 9))) = true := by rw [hok, hn]; simp
    cases (Int.tmod (rd l (i : Int) 0) 2 == 0) with
    | true =>
      simp only [cond_true]
      rw [S10_eq hk I.sm, S17_eq hk I.sm]
      simp only [Option.bind_some]
      rw [hchk]
      exact take
    | false =>
      simp only [cond_false]
      by_cases h0 : t.length = 0
      · have : ((t.length : Int) == 0) = true := by simp; exact List.length_eq_zero_iff.1 h0
        rw [this]
        simp only [cond_true]
        rw [S10_eq hk I.sm, S17_eq hk I.sm]
        simp only [Option.bind_some]
        rw [hchk]
        exact take
      · have : ((t.length : Int) == 0) = false := by simp; intro e; rw [e] at h0; exact h0 rfl
        rw [this]
        simp only [cond_false]
        have hq := hf l[i] (List.getElem_mem hi)
        have hr : rd l (i : Int) 0 = l[i] := by rw [rd_nat, getD_in hi]
        rw [ix_nat hi, nz_ok (by omega), hr]
        have hd1 : 0 ≤ Int.tdiv l[i] 2 := Int.tdiv_nonneg hq.1 (by omega)
        have hd2 : Int.tdiv l[i] 2 ≤ 255 := by
          rw [Int.tdiv_eq_ediv_of_nonneg hq.1]; omega
        rw [w64 (n := l[i]) (by omega) (by omega), w64 (n := Int.tdiv l[i] 2) (by omega) (by omega)]
        have h3 := Int.tmod_lt_of_pos (Int.tdiv l[i] 2) (show (0 : Int) < (t.length : Int) by omega)
        have h4 := Int.tmod_nonneg (t.length : Int) hd1
        generalize Int.tmod (Int.tdiv l[i] 2) (t.length : Int) = z at h3 h4 ⊢
        obtain ⟨q, rfl⟩ : ∃ q : Nat, z = (q : Int) := ⟨z.toNat, by omega⟩
        have hqt : q < t.length := by omega
        obtain ⟨f1, f2⟩ := I.free hqt
        have fr := free_sm (h := tg t q) I.sm
        simp only at fr
        rw [ix_nat hqt, rd_nat, S12_eq hk I.sm]
        simp only [Option.bind_some]
        rw [ix_nat (by rw [← I.tl]; exact hqt), ix_nat (by rw [← I.tl]; exact hqt), rd_nat, upd_nat]
        simp only [tg, hg] at f1 f2 fr
        rw [f1]
        simp only [beq_self_eq_true, Bool.not_true, cond_false]
        have ti := I.ti
        exact L24 hk f2 (by omega) (by omega) (L9 hk hl hf d (i + 1) j _ _ _ _ f2 (by rw [fr.1]; exact hn) (by omega) (by omega)) _ 0 k (by rw [Nat.zero_add]) (by omega)

/-- No handle is told twice, each is had till it is freed, and then never again. -/
theorem slotsOnce_pure (n : Int) (l : List Int) (hn : 0 ≤ n ∧ n ≤ 255) (hf : ∀ q ∈ l, 0 ≤ q ∧ q ≤ 255) : S4 1000 n l = some ((true, ()), ()) := by
  unfold S4
  rw [begun_eq]
  simp only [Option.bind_some, Bool.not_true, cond_false]
  by_cases hl : (l.length : Int) > 60
  · rw [bif_t hl]
  · rw [bif_f hl, S8_eq]
    simp only [Option.bind_some]
    have h1 := Int.tmod_lt_of_pos n (show (0 : Int) < 9 by omega)
    have h2 := Int.tmod_nonneg 9 hn.1
    have hw : IntKind.i64.wrap (Int.tmod n 9) = Int.tmod n 9 := w64 (by omega) (by omega)
    have hc : ((clampN (IntKind.i64.wrap (Int.tmod n 9)) : Nat) : Int) = IntKind.i64.wrap (Int.tmod n 9) := by
      rw [hw]; unfold clampN; rw [mn_eq, mx_eq]; omega
    have hrep : ∀ x : Nat, (List.replicate (clampN (IntKind.i64.wrap (Int.tmod n 9))) (0 : Int)).getD x 0 = 0 := fun x => by
      rw [List.getD_eq_getElem?_getD, List.getElem?_replicate]; split <;> rfl
    refine L9 (by omega) (by omega) hf l.length 0 1000 _ _ [] [] ⟨by simp, by simp; omega, rfl, by simp, fun x => by rw [hrep]; simp, fun m hm => by simp at hm, fun m hm => by simp at hm, fun m q _ hq => by simp at hq⟩ (by simp; exact hc) (by omega) (by omega)
theorem slotsOnce_law (n : Int) (l : List Int) (hn : Ty.fine (.int .u8) n) (hl : Ty.fine (.sl 5 (.int .u8)) l) : ∃ k, S4 k n l = some ((true, ()), ()) :=
  ⟨1000, slotsOnce_pure n l (wf_u8 hn) (fun q hq => wf_u8 (hl.2 q hq))⟩
end Go.Proofs.Ytkhahfpjnmebdaa.Ab
