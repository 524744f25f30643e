import Derived.Test.YtkhahfpjnmebdaaAbPure
import Derived.Test.YtkhahfpjnmebdaaAbF1
import Derived.KernelRfl
/- The plain functions of slots, and the document's: what they come to. -/
set_option linter.unusedVariables false
set_option linter.unusedSimpArgs false
namespace Go.Proofs.Ytkhahfpjnmebdaa.Ab
open Go.RowKit

abbrev Sl := List Int × List Bool
def Sm (s : Sl) : Prop := s.1.length ≤ 100 ∧ s.2.length ≤ 100
def mins (s : Sl) : Nat := min s.1.length s.2.length

theorem getD_in {α : Type} {l : List α} {n : Nat} {z : α} (h : n < l.length) : l.getD n z = l[n] := by
  simp [List.getD_eq_getElem?_getD, List.getElem?_eq_getElem h]

theorem set_get {α : Type} {l : List α} {x y : Nat} {v z : α} : (l.set x v).getD y z = if x = y ∧ y < l.length then v else l.getD y z := by
  simp only [List.getD_eq_getElem?_getD, List.getElem?_set]
  by_cases h : x = y
  · subst h
    by_cases h2 : x < l.length
    · simp [h2]
    · simp [h2]
  · simp [h]

/-- The first place that is v. -/
def fst (v : Bool) : List Bool → Nat → Int
  | [], _ => -1
  | x :: r, n => if v = x then (n : Int) else fst v r (n + 1)
theorem fst_range (v : Bool) : ∀ (l : List Bool) (n : Nat), fst v l n = -1 ∨ ∃ m, m < l.length ∧ fst v l n = ((n + m : Nat) : Int)
  | [], n => .inl rfl
  | x :: r, n => by
    simp only [fst]
    split
    · exact .inr ⟨0, by simp, by simp⟩
    · rcases fst_range v r (n + 1) with h | ⟨m, h1, h2⟩
      · exact .inl h
      · exact .inr ⟨m + 1, by simpa using h1, by rw [h2]; omega⟩

theorem L19 (k : Nat) (xs : List Bool) (v : Bool) (hl : xs.length ≤ 1000000) : ∀ d n j : Nat, n + d = xs.length → d < j → L19_2 k j xs v (xs.length : Int) (n : Int) = some ((fst v (xs.drop n) n, ()), ())
  | 0, n, j, hn, hj => by
    obtain ⟨j, rfl⟩ : ∃ m, j = m + 1 := ⟨j - 1, by omega⟩
    rw [L19_2_s]; unfold l19_2
    rw [bif_f (by omega), List.drop_eq_nil_of_le (by omega)]
    rfl
  | d + 1, n, j, hn, hj => by
    obtain ⟨j, rfl⟩ : ∃ m, j = m + 1 := ⟨j - 1, by omega⟩
    have hlt : n < xs.length := by omega
    rw [L19_2_s]; unfold l19_2
    rw [bif_t (by omega), ix_nat hlt, rd_nat, getD_in hlt, w64_nat (by omega), L19 k xs v hl d (n + 1) j (by omega) (by omega), List.drop_eq_getElem_cons hlt]
    simp only [fst]
    by_cases h : v = xs[n]
    · rw [if_pos h, show (v == xs[n]) = true by simp [h]]; rfl
    · rw [if_neg h, show (v == xs[n]) = false by simpa using h]; rfl

/-- What a take comes to, at a place. -/
def takeR (s : Sl) (i : Int) : ((List Int × List Bool) × (Int × Int) × Bool × Unit) :=
  if i < 0 then (s, (0, 0), false, ()) else ((s.1.set i.toNat (IntKind.i64.wrap (s.1.getD i.toNat 0 + 1)), s.2.set i.toNat true), (i, IntKind.i64.wrap (s.1.getD i.toNat 0 + 1)), true, ())
def takeF (s : Sl) : ((List Int × List Bool) × (Int × Int) × Bool × Unit) := takeR s (fst false (s.2.take (mins s)) 0)

theorem S18_eq {k : Nat} {s : Sl} (hs : Sm s) : S18 k s = some ((s, ()), ()) := by
  unfold S18 S24 S25
  obtain ⟨h1, h2⟩ := hs
  rw [clone_eq (by omega), clone_eq (by omega)]
  rfl
theorem S20_eq {k : Nat} {s : Sl} : S20 k s = some ((((mins s : Nat) : Int), ()), ()) := by
  unfold S20 mins
  rw [mn_eq]
  congr 3
  omega

theorem S10_eq {k : Nat} (hk : 200 ≤ k) {s : Sl} (hs : Sm s) : S10 k s = some (takeF s, ()) := by
  obtain ⟨h1, h2⟩ := hs
  unfold S10
  rw [S18_eq ⟨h1, h2⟩]
  simp only [Option.bind_some]
  rw [S20_eq]
  simp only [Option.bind_some]
  have hm : mins s ≤ s.2.length := Nat.min_le_right _ _
  have hm1 : mins s ≤ s.1.length := Nat.min_le_left _ _
  have hsub : sub s.2 0 ((mins s : Nat) : Int) = s.2.take (mins s) := by simp [sub]
  have htl : (s.2.take (mins s)).length = mins s := by simp; omega
  rw [sx_ok (by omega) (by omega) (by omega), hsub]
  unfold S19
  have h19 := L19 k (s.2.take (mins s)) false (by omega) (mins s) 0 k (by omega) (by omega)
  rw [List.drop_zero] at h19
  rw [show ((0 : Nat) : Int) = 0 from rfl] at h19
  rw [h19]
  simp only [Option.bind_some, takeF]
  generalize hi : fst false (s.2.take (mins s)) 0 = i
  have hr := fst_range false (s.2.take (mins s)) 0
  rw [hi, htl] at hr
  rcases hr with rfl | ⟨m, hm2, rfl⟩
  · rfl
  · rw [Nat.zero_add, bif_f (by omega), ix_nat (by omega), ix_nat (by omega), ix_nat (by omega), ix_ok (by omega) (by rw [upd_len]; omega)]
    unfold takeR
    rw [if_neg (by omega)]
    show some (((s.1.set m (IntKind.i64.wrap (s.1.getD m 0 + 1)), s.2.set m true), (((m : Nat) : Int), (s.1.set m (IntKind.i64.wrap (s.1.getD m 0 + 1))).getD m 0), true, ()), ()) = _
    rw [set_get, if_pos ⟨rfl, by omega⟩]
    rfl

theorem S21_eq {k : Nat} {s : Sl} (hs : Sm s) : S21 k s = some ((s, ()), ()) := by
  obtain ⟨h1, h2⟩ := hs
  unfold S21
  rw [ap_ok (by simp; omega), ap_ok (by simp; omega)]
  rfl

theorem L11 (k : Nat) (s : Sl) (t u : Int) (hs : Sm s) : ∀ d n j : Nat, n + d = mins s → d < j → L11_3 k j t u s.1 s.2 (n : Int) = some (takeR s (fst false ((s.2.take (mins s)).drop n) n), ())
  | 0, n, j, hn, hj => by
    obtain ⟨j, rfl⟩ : ∃ m, j = m + 1 := ⟨j - 1, by omega⟩
    have hm : (s.2.take (mins s)).length ≤ n := by simp; omega
    rw [L11_3_s]; unfold l11_3
    rw [List.drop_eq_nil_of_le hm]
    have : (fst false [] n) = -1 := rfl
    rw [this]
    have hr : takeR s (-1) = (s, (0, 0), false, ()) := rfl
    rw [hr]
    unfold mins at hn
    by_cases h : n < s.2.length
    · rw [bif_t (by omega), bif_f (by omega)]
    · rw [bif_f (by omega)]
  | d + 1, n, j, hn, hj => by
    obtain ⟨j, rfl⟩ : ∃ m, j = m + 1 := ⟨j - 1, by omega⟩
    obtain ⟨h1, h2⟩ := hs
    have hlt : n < mins s := by omega
    have hm : mins s ≤ s.2.length := Nat.min_le_right _ _
    have hm1 : mins s ≤ s.1.length := Nat.min_le_left _ _
    have hlt' : n < (s.2.take (mins s)).length := by simp; omega
    rw [L11_3_s]; unfold l11_3
    rw [bif_t (by omega), bif_t (by omega), ix_nat (by omega), rd_nat, getD_in (show n < s.2.length by omega), w64_nat (by omega), L11 k s t u ⟨h1, h2⟩ d (n + 1) j (by omega) (by omega), List.drop_eq_getElem_cons hlt']
    simp only [fst, List.getElem_take]
    cases hb : s.2[n] with
    | true => simp
    | false =>
      simp only [Bool.not_false, cond_true, if_true]
      rw [ix_nat (by omega), ix_nat (by omega), ix_nat (by omega), ix_ok (by omega) (by rw [upd_len]; omega)]
      unfold takeR
      rw [if_neg (by omega)]
      show some (((s.1.set n (IntKind.i64.wrap (s.1.getD n 0 + 1)), s.2.set n true), (((n : Nat) : Int), (s.1.set n (IntKind.i64.wrap (s.1.getD n 0 + 1))).getD n 0), true, ()), ()) = _
      rw [set_get, if_pos ⟨rfl, by omega⟩]
      rfl

theorem S11_eq {k : Nat} (hk : 200 ≤ k) {s : Sl} (hs : Sm s) : S11 k s = some (takeF s, ()) := by
  unfold S11
  rw [S21_eq hs]
  simp only [Option.bind_some]
  have hm : mins s ≤ s.2.length := Nat.min_le_right _ _
  have h := L11 k s 0 0 hs (mins s) 0 k (by omega) (by have := hs.2; omega)
  rw [List.drop_zero] at h
  exact h

/-- Is a place taken, with that number? -/
def hasN (s : Sl) (m : Nat) (h : Int × Int) : Bool := decide (0 ≤ h.1) && (decide (h.1 < (m : Int)) && (s.2.getD h.1.toNat false && (s.1.getD h.1.toNat 0 == h.2)))
def hasF (s : Sl) (h : Int × Int) : Bool := hasN s (mins s) h

theorem S16_eq {k : Nat} {s : Sl} {h : Int × Int} : S16 k s h = some ((hasF s h, ()), ()) := by
  unfold S16 hasF hasN mins
  by_cases h1 : h.1 ≥ 0
  · rw [bif_t h1]
    by_cases h2 : h.1 < (s.2.length : Int)
    · rw [bif_t h2]
      by_cases h3 : h.1 < (s.1.length : Int)
      · rw [bif_t h3, ix_ok h1 h2, ix_ok h1 h3]
        have h4 : h.1 < ((min s.1.length s.2.length : Nat) : Int) := by omega
        simp only [rd]
        rw [decide_eq_true (show 0 ≤ h.1 from h1), decide_eq_true h4]
        cases s.2.getD h.1.toNat false <;> simp
      · rw [bif_f h3]
        have h4 : ¬ h.1 < ((min s.1.length s.2.length : Nat) : Int) := by omega
        rw [decide_eq_false h4]; simp
    · rw [bif_f h2]
      have h4 : ¬ h.1 < ((min s.1.length s.2.length : Nat) : Int) := by omega
      rw [decide_eq_false h4]; simp
  · rw [bif_f h1, decide_eq_false (show ¬ 0 ≤ h.1 by omega)]; simp

abbrev TK : Ty := .pair (.int .i64) (.int .i64)
def entS (s : Sl) : Nat → List ((Int × Int) × Bool)
  | 0 => []
  | n + 1 => if s.2.getD n false = true then entS s n ++ [(((n : Int), s.1.getD n 0), true)] else entS s n
theorem entS_key (s : Sl) : ∀ n, ∀ e ∈ entS s n, ∃ i : Nat, i < n ∧ e.1.1 = (i : Int)
  | 0, e, h => by cases h
  | n + 1, e, h => by
    simp only [entS] at h
    split at h
    · rcases List.mem_append.1 h with h | h
      · obtain ⟨i, h1, h2⟩ := entS_key s n e h; exact ⟨i, by omega, h2⟩
      · rw [List.mem_singleton.1 h]; exact ⟨n, by omega, rfl⟩
    · obtain ⟨i, h1, h2⟩ := entS_key s n e h; exact ⟨i, by omega, h2⟩
theorem updD_new {tk tv : Ty} {k : tk.D} {v : tv.D} : ∀ {l : List (tk.D × tv.D)}, (∀ e ∈ l, beqD tk k e.1 = false) → updD tk tv k v l = l ++ [(k, v)]
  | [], _ => rfl
  | e :: l, h => by
    simp only [updD]
    rw [h e List.mem_cons_self]
    simp only [List.cons_append]
    rw [updD_new (fun e' he => h e' (List.mem_cons_of_mem _ he))]
theorem lookD_snoc {tk tv : Ty} {k : tk.D} {e : tk.D × tv.D} : ∀ {l : List (tk.D × tv.D)}, lookD tk tv k (l ++ [e]) = match lookD tk tv k l with | some z => some z | none => (match beqD tk k e.1 with | true => some e.2 | false => none)
  | [] => rfl
  | x :: l => by
    simp only [List.cons_append, lookD]
    cases beqD tk k x.1 with
    | true => rfl
    | false => exact lookD_snoc

theorem L23 (k : Nat) (s : Sl) (hs : Sm s) : ∀ d n j : Nat, n + d = mins s → d < j → L23_3 k j s.1 s.2 (entS s n) ((mins s : Nat) : Int) (n : Int) = some ((entS s (mins s), ()), ())
  | 0, n, j, hn, hj => by
    obtain ⟨j, rfl⟩ : ∃ m, j = m + 1 := ⟨j - 1, by omega⟩
    rw [L23_3_s]; unfold l23_3
    rw [bif_f (by omega), show n = mins s by omega]
  | d + 1, n, j, hn, hj => by
    obtain ⟨j, rfl⟩ : ∃ m, j = m + 1 := ⟨j - 1, by omega⟩
    have hm : mins s ≤ s.2.length := Nat.min_le_right _ _
    have hm1 : mins s ≤ s.1.length := Nat.min_le_left _ _
    have := hs.1
    rw [L23_3_s]; unfold l23_3
    rw [bif_t (by omega), ix_nat (by omega), ix_nat (by omega), rd_nat, rd_nat, w64_nat (by omega)]
    have ih := L23 k s hs d (n + 1) j (by omega) (by omega)
    simp only [entS] at ih
    cases hb : s.2.getD n false with
    | true =>
      rw [hb] at ih
      simp only [if_true, cond_true] at ih ⊢
      rw [updD_new (tk := TK) (tv := .bool) (fun e he => by
        obtain ⟨i, h1, h2⟩ := entS_key s n e he
        simp only [beqD]
        rw [h2]
        have : ((n : Int) == (i : Int)) = false := by simp; omega
        rw [this]; rfl)]
      exact ih
    | false =>
      rw [hb] at ih
      simpa using ih

theorem S23_eq {k : Nat} (hk : 200 ≤ k) {s : Sl} (hs : Sm s) : S23 k s = some ((entS s (mins s), ()), ()) := by
  unfold S23
  rw [S20_eq]
  simp only [Option.bind_some]
  have hm : mins s ≤ s.2.length := Nat.min_le_right _ _
  exact L23 k s hs (mins s) 0 k (by omega) (by have := hs.2; omega)

theorem mget_entS (s : Sl) (h : Int × Int) : ∀ n : Nat, mget TK .bool h (entS s n) false = hasN s n h
  | 0 => by
    have : ¬ (h.1 < ((0 : Nat) : Int)) ∨ ¬ 0 ≤ h.1 := by omega
    unfold hasN
    rcases this with h1 | h1 <;> rw [decide_eq_false h1] <;> simp [mget, entS, lookD]
  | n + 1 => by
    have ih := mget_entS s h n
    unfold mget at ih ⊢
    simp only [entS]
    cases hb : s.2.getD n false with
    | false =>
      simp only [Bool.false_eq_true, if_false]
      rw [ih]
      unfold hasN
      by_cases e : h.1 = (n : Int)
      · rw [e, Int.toNat_natCast, hb]; simp only [Bool.false_and, Bool.and_false]
      · have : decide (h.1 < ((n + 1 : Nat) : Int)) = decide (h.1 < (n : Int)) := by apply decide_eq_decide.2; omega
        rw [this]
    | true =>
      simp only [if_true]
      rw [lookD_snoc]
      by_cases e : h.1 = (n : Int)
      · have hn : hasN s n h = false := by unfold hasN; rw [decide_eq_false (show ¬ h.1 < (n : Int) by omega)]; simp
        rw [hn] at ih
        have hl : lookD TK .bool h (entS s n) = none := by
          cases hl : lookD TK .bool h (entS s n) with
          | none => rfl
          | some z =>
            exfalso
            have : ∀ {l : List ((Int × Int) × Bool)} {z : Bool}, lookD TK .bool h l = some z → ∃ e ∈ l, h.1 = e.1.1 := by
              intro l
              induction l with
              | nil => intro z h; cases h
              | cons x l ihl =>
                intro z hz
                simp only [lookD] at hz
                cases hx : beqD TK h x.1 with
                | true =>
                  simp only [beqD, Bool.and_eq_true, beq_iff_eq] at hx
                  exact ⟨x, List.mem_cons_self, hx.1⟩
                | false =>
                  rw [hx] at hz
                  obtain ⟨e, h1, h2⟩ := ihl hz
                  exact ⟨e, List.mem_cons_of_mem _ h1, h2⟩
            obtain ⟨e', h1, h2⟩ := this hl
            obtain ⟨i, h3, h4⟩ := entS_key s n e' h1
            omega
        rw [hl]
        simp only [beqD]
        unfold hasN
        rw [e, Int.toNat_natCast, hb]
        have h1 : decide (0 ≤ (n : Int)) = true := by simp
        have h2 : decide ((n : Int) < ((n + 1 : Nat) : Int)) = true := decide_eq_true (by omega)
        rw [h1, h2]
        simp only [beq_self_eq_true, Bool.true_and]
        have h3 : (h.2 == s.1.getD n 0) = (s.1.getD n 0 == h.2) := by
          rw [Bool.eq_iff_iff]; simp only [beq_iff_eq]; exact ⟨fun h => h.symm, fun h => h.symm⟩
        rw [h3]
        cases (s.1.getD n 0 == h.2) <;> rfl
      · have h1 : beqD TK h ((n : Int), s.1.getD n 0) = false := by
          simp only [beqD]
          have : (h.1 == (n : Int)) = false := by simp; exact e
          rw [this]; rfl
        have h2 : decide (h.1 < ((n + 1 : Nat) : Int)) = decide (h.1 < (n : Int)) := by apply decide_eq_decide.2; omega
        unfold hasN at ih ⊢
        rw [h2, ← ih]
        simp only [h1]
        cases lookD TK .bool h (entS s n) <;> rfl

theorem S15_eq {k : Nat} (hk : 200 ≤ k) {s : Sl} (hs : Sm s) {h : Int × Int} : S15 k s h = some ((hasF s h, ()), ()) := by
  unfold S15
  rw [S23_eq hk hs]
  simp only [Option.bind_some]
  rw [show mget (.pair (.int .i64) (.int .i64)) .bool h (entS s (mins s)) false = hasF s h from mget_entS s h (mins s)]

/-- How many are taken. -/
def cnt (l : List Bool) : Nat → Nat
  | 0 => 0
  | n + 1 => if l.getD n false = true then cnt l n + 1 else cnt l n
theorem cnt_le (l : List Bool) : ∀ n, cnt l n ≤ n
  | 0 => Nat.le_refl _
  | n + 1 => by simp only [cnt]; have := cnt_le l n; split <;> omega
theorem entS_len (s : Sl) : ∀ n, (entS s n).length = cnt s.2 n
  | 0 => rfl
  | n + 1 => by
    simp only [entS, cnt]
    split
    · rw [List.length_append, entS_len s n]; rfl
    · exact entS_len s n
theorem S17_eq {k : Nat} (hk : 200 ≤ k) {s : Sl} (hs : Sm s) : S17 k s = some ((((cnt s.2 (mins s) : Nat) : Int), ()), ()) := by
  unfold S17
  rw [S23_eq hk hs]
  simp only [Option.bind_some]
  rw [entS_len]

def freeF (s : Sl) (h : Int × Int) : ((List Int × List Bool) × Bool × Unit) := if hasF s h = true then ((s.1, s.2.set h.1.toNat false), true, ()) else (s, false, ())
theorem has_in {s : Sl} {h : Int × Int} (hh : hasF s h = true) : 0 ≤ h.1 ∧ h.1 < (s.2.length : Int) ∧ h.1 < (s.1.length : Int) := by
  unfold hasF hasN mins at hh
  simp only [Bool.and_eq_true, decide_eq_true_eq] at hh
  omega
theorem S12_eq {k : Nat} (hk : 200 ≤ k) {s : Sl} (hs : Sm s) {h : Int × Int} : S12 k s h = some (freeF s h, ()) := by
  unfold S12
  rw [S18_eq hs]
  simp only [Option.bind_some]
  rw [S15_eq hk hs]
  simp only [Option.bind_some, freeF]
  cases hh : hasF s h with
  | false => simp
  | true =>
    obtain ⟨h1, h2, h3⟩ := has_in hh
    simp only [Bool.not_true, cond_false, if_true]
    rw [ix_ok h1 h2]
    rfl
theorem S13_eq {k : Nat} {s : Sl} (hs : Sm s) {h : Int × Int} : S13 k s h = some (freeF s h, ()) := by
  unfold S13
  rw [S21_eq hs]
  simp only [Option.bind_some]
  rw [S16_eq]
  simp only [Option.bind_some, freeF]
  cases hh : hasF s h with
  | false => simp
  | true =>
    obtain ⟨h1, h2, h3⟩ := has_in hh
    simp only [Bool.not_true, cond_false, if_true]
    rw [ix_ok h1 h2]
    rfl

theorem L22b (k : Nat) (s : Sl) (hs : Sm s) : ∀ d n j : Nat, n + d = s.2.length → d < j → L22_9 k j s.1 s.2 s.1 s.2 (n : Int) = some ((true, ()), ())
  | 0, n, j, hn, hj => by
    obtain ⟨j, rfl⟩ : ∃ m, j = m + 1 := ⟨j - 1, by omega⟩
    rw [L22_9_s]; unfold l22_9
    rw [bif_f (by omega)]
  | d + 1, n, j, hn, hj => by
    obtain ⟨j, rfl⟩ : ∃ m, j = m + 1 := ⟨j - 1, by omega⟩
    have := hs.2
    rw [L22_9_s]; unfold l22_9
    rw [bif_t (by omega), ix_nat (by omega), ix_nat (by omega), w64_nat (by omega), L22b k s hs d (n + 1) j (by omega) (by omega)]
    simp
theorem L22a (k : Nat) (hk : 200 ≤ k) (s : Sl) (hs : Sm s) : ∀ d n j : Nat, n + d = s.1.length → d < j → L22_4 k j s.1 s.2 s.1 s.2 (n : Int) = some ((true, ()), ())
  | 0, n, j, hn, hj => by
    obtain ⟨j, rfl⟩ : ∃ m, j = m + 1 := ⟨j - 1, by omega⟩
    rw [L22_4_s]; unfold l22_4
    rw [bif_f (by omega)]
    exact L22b k s hs s.2.length 0 k (by omega) (by have := hs.2; omega)
  | d + 1, n, j, hn, hj => by
    obtain ⟨j, rfl⟩ : ∃ m, j = m + 1 := ⟨j - 1, by omega⟩
    have := hs.1
    rw [L22_4_s]; unfold l22_4
    rw [bif_t (by omega), ix_nat (by omega), ix_nat (by omega), w64_nat (by omega), L22a k hk s hs d (n + 1) j (by omega) (by omega)]
    simp
theorem S14_eq {k : Nat} (hk : 200 ≤ k) {s : Sl} (hs : Sm s) : S14 k s s = some ((true, ()), ()) := by
  unfold S14 S22
  have h := L22a k hk s hs s.1.length 0 k (by omega) (by have := hs.1; omega)
  simp only [bne_self_eq_false, cond_false]
  rw [show ((0 : Nat) : Int) = 0 from rfl] at h
  rw [h]
  rfl

theorem take_sm {s : Sl} (hs : Sm s) : (takeF s).1.1.length = s.1.length ∧ (takeF s).1.2.length = s.2.length := by
  unfold takeF takeR
  split <;> simp
theorem free_sm {s : Sl} {h : Int × Int} (hs : Sm s) : (freeF s h).1.1.length = s.1.length ∧ (freeF s h).1.2.length = s.2.length := by
  unfold freeF
  split <;> simp
end Go.Proofs.Ytkhahfpjnmebdaa.Ab
