import Derived.Test.YtkhahfpjnmebdaaPSlots
import Derived.Test.YtkhahfpjnmebdaaAbOpen
/- The laws SlotsAll and SlotsWild, of plain lists. -/
set_option linter.unusedVariables false
set_option linter.unusedSimpArgs false
namespace Go.Proofs.Ytkhahfpjnmebdaa.Ab
open Go.RowKit

theorem begun_eq : S7 1000 = some ((true, ()), ()) := by kernel_rfl

def clampN (n : Int) : Nat := (mn (mx n 0) 64).toNat
theorem clamp_le (n : Int) : clampN n ≤ 64 ∧ mn (mx n 0) 64 = ((clampN n : Nat) : Int) := by
  unfold clampN; rw [mn_eq, mx_eq]; omega
theorem S8_eq {k : Nat} {n : Int} : S8 k n = some (((List.replicate (clampN n) 0, List.replicate (clampN n) false), ()), ()) := by
  obtain ⟨h1, h2⟩ := clamp_le n
  unfold S8
  rw [h2, mk_ok (by omega) (by simp; omega), mk_ok (by omega) (by simp; omega)]
  rfl
theorem S9_eq {k : Nat} {n : Int} : S9 k n = some (((List.replicate (clampN n) 0, List.replicate (clampN n) false), ()), ()) := by
  obtain ⟨h1, h2⟩ := clamp_le n
  unfold S9
  rw [h2, mk_ok (by omega) (by simp; omega), mk_ok (by omega) (by simp; omega)]
  rfl

theorem L28 {k : Nat} (hk : 200 ≤ k) {g8 : List (Int × Int × Int) → Int → Int → List Int → List Bool → List Int → List Bool → List (Int × Int) → Int → Option ((Bool × Unit) × Unit)} {l : List (Int × Int × Int)} {h1 h2 x x1 : Int} {told : List (Int × Int)} {i : Nat} (hi : i < 1000)
    {a : List Int} {b : List Bool} (hs : Sm (a, b)) (he : a.length = b.length) (hg : g8 l h1 h2 a b a b told ((i + 1 : Nat) : Int) = some ((true, ()), ())) :
    ∀ d n j : Nat, n + d = b.length → d < j → L3_28 k g8 j l h1 h2 a b a b told (i : Int) x x1 ((cnt b n : Nat) : Int) (n : Int) = some ((true, ()), ())
  | 0, n, j, hn, hj => by
    obtain ⟨j, rfl⟩ : ∃ m, j = m + 1 := ⟨j - 1, by omega⟩
    rw [L3_28_s]; unfold l3_28
    have hm : mins (a, b) = n := by unfold mins; simp only; omega
    rw [bif_f (by omega), S14_eq hk hs, S15_eq hk hs, S15_eq hk hs, S16_eq, S16_eq, S17_eq hk hs, hm, w64_nat (by omega)]
    simp only [Option.bind_some, Bool.not_true, cond_false, beq_self_eq_true, bne_self_eq_false]
    exact hg
  | d + 1, n, j, hn, hj => by
    obtain ⟨j, rfl⟩ : ∃ m, j = m + 1 := ⟨j - 1, by omega⟩
    rw [L3_28_s]; unfold l3_28
    have := hs.2
    simp only at this
    have ih := L28 hk (x := x) (x1 := x1) hi hs he hg d (n + 1) j (by omega) (by omega)
    simp only [cnt] at ih
    have hc := cnt_le b n
    rw [bif_t (by omega), ix_nat (by omega), rd_nat, w64_nat (by omega), w64_nat (by omega)]
    cases hb : b.getD n false with
    | true => rw [hb] at ih; simpa using ih
    | false => rw [hb] at ih; simpa using ih

theorem beqTK (p : Int × Int) : beqD TK p p = true := by simp [beqD]

theorem j3 {k : Nat} (hk : 200 ≤ k) {g8 : List (Int × Int × Int) → Int → Int → List Int → List Bool → List Int → List Bool → List (Int × Int) → Int → Option ((Bool × Unit) × Unit)} {l : List (Int × Int × Int)} {h1 h2 x x1 : Int} {told : List (Int × Int)} {i : Nat} (hi : i < l.length) (hl : l.length ≤ 60) (ht : told.length ≤ 60)
    {a : List Int} {b : List Bool} (hs : Sm (a, b)) (he : a.length = b.length)
    (hg : ∀ a' b' told', Sm (a', b') → a'.length = b'.length → told'.length ≤ told.length + 1 → g8 l h1 h2 a' b' a' b' told' ((i + 1 : Nat) : Int) = some ((true, ()), ())) :
    j3_13 k g8 l h1 h2 a b a b told (i : Int) x x1 = some ((true, ()), ()) := by
  have hz : (0 : Int) = ((cnt ([] : List Bool) 0 : Nat) : Int) := rfl
  have loop : ∀ {a' : List Int} {b' : List Bool} {told' : List (Int × Int)}, Sm (a', b') → a'.length = b'.length → told'.length ≤ told.length + 1 → L3_28 k g8 k l h1 h2 a' b' a' b' told' (i : Int) x x1 0 0 = some ((true, ()), ()) := fun {a' b' told'} hs' he' ht' => by
    have := L28 hk (x := x) (x1 := x1) (l := l) (i := i) (by omega) hs' he' (hg a' b' told' hs' he' ht') b'.length 0 k (by omega) (by have := hs'.2; simp only at this; omega)
    simpa [cnt] using this
  have tk := take_sm hs
  have hs1 : Sm ((takeF (a, b)).1.1, (takeF (a, b)).1.2) := by
    obtain ⟨q1, q2⟩ := hs
    simp only at q1 q2 tk
    exact ⟨by simp only; omega, by simp only; omega⟩
  have he1 : (takeF (a, b)).1.1.length = (takeF (a, b)).1.2.length := by simp only at tk; omega
  have fr := free_sm (h := (x, x1)) hs
  have hs2 : Sm ((freeF (a, b) (x, x1)).1.1, (freeF (a, b) (x, x1)).1.2) := by
    obtain ⟨q1, q2⟩ := hs
    simp only at q1 q2 fr
    exact ⟨by simp only; omega, by simp only; omega⟩
  have he2 : (freeF (a, b) (x, x1)).1.1.length = (freeF (a, b) (x, x1)).1.2.length := by simp only at fr; omega
  unfold j3_13
  rw [ix_nat hi, S10_eq hk hs, S11_eq hk hs, S12_eq hk hs, S13_eq hs]
  simp only [Option.bind_some, Bool.not_true, cond_false, beq_self_eq_true, beqTK]
  cases decide (Int.tmod (rd l (i : Int) (0, 0, 0)).1 4 < 2) with
  | true =>
    simp only [cond_true]
    cases (takeF (a, b)).2.2.1 with
    | true =>
      simp only [cond_true]
      rw [ap_ok (by simp; omega)]
      exact loop hs1 he1 (by simp)
    | false =>
      simp only [cond_false]
      exact loop hs1 he1 (by omega)
  | false =>
    simp only [cond_false]
    exact loop hs2 he2 (by omega)

theorem L8 {k : Nat} (hk : 200 ≤ k) {l : List (Int × Int × Int)} (hl : l.length ≤ 60) (hf : ∀ q ∈ l, 0 ≤ q.2.1 ∧ q.2.1 ≤ 255) {h1 h2 : Int} :
    ∀ (d n j : Nat) (a : List Int) (b : List Bool) (told : List (Int × Int)), Sm (a, b) → a.length = b.length → told.length ≤ n → n + d = l.length → d < j → L3_8 k j l h1 h2 a b a b told (n : Int) = some ((true, ()), ())
  | 0, n, j, a, b, told, hs, he, ht, hn, hj => by
    obtain ⟨j, rfl⟩ : ∃ m, j = m + 1 := ⟨j - 1, by omega⟩
    rw [L3_8_s]; unfold l3_8
    rw [bif_f (by omega), S14_eq hk hs]
    rfl
  | d + 1, n, j, a, b, told, hs, he, ht, hn, hj => by
    obtain ⟨j, rfl⟩ : ∃ m, j = m + 1 := ⟨j - 1, by omega⟩
    have hi : n < l.length := by omega
    rw [L3_8_s]; unfold l3_8
    have go : ∀ x x1 : Int, j3_13 k (L3_8 k j) l h1 h2 a b a b told (n : Int) x x1 = some ((true, ()), ()) := fun x x1 =>
      j3 hk hi hl (by omega) hs he (fun a' b' told' hs' he' ht' => L8 hk hl hf d (n + 1) j a' b' told' hs' he' (by omega) (by omega) (by omega))
    rw [bif_t (by omega), ix_nat hi, ix_nat hi]
    by_cases h0 : (told.length : Int) > 0
    · rw [bif_t h0, ix_nat hi, ix_nat hi]
      have hq := hf l[n] (List.getElem_mem hi)
      have hr : rd l (n : Int) (0, 0, 0) = l[n] := by rw [rd_nat, getD_in hi]
      rw [hr, w64 (n := l[n].2.1) (by omega) (by omega)]
      have h3 := Int.tmod_lt_of_pos l[n].2.1 h0
      have h4 := Int.tmod_nonneg (told.length : Int) hq.1
      rw [nz_ok (by omega), ix_ok h4 h3]
      cases (Int.tmod l[n].1 4 == 2) <;> exact go _ _
    · rw [bif_f h0]; exact go _ _

/-- Which places are taken, and who has which, in any run. -/
theorem slotsAll_pure (n : Int) (l : List (Int × Int × Int)) (h : Int × Int) (hf : ∀ q ∈ l, 0 ≤ q.2.1 ∧ q.2.1 ≤ 255) : S3 1000 n l h = some ((true, ()), ()) := by
  unfold S3
  rw [begun_eq]
  simp only [Option.bind_some, Bool.not_true, cond_false]
  by_cases hl : (l.length : Int) > 60
  · rw [bif_t hl]
  · rw [bif_f hl, S8_eq, S9_eq]
    simp only [Option.bind_some]
    have hc := (clamp_le n).1
    exact L8 (by omega) (by omega) hf l.length 0 1000 _ _ [] ⟨by simp; omega, by simp; omega⟩ (by simp) (by simp) (by omega) (by omega)

theorem L17 {k : Nat} (hk : 200 ≤ k) {g : List Int} {b : List Bool} (hs : Sm (g, b)) {h : Int × Int} :
    ∀ d n j : Nat, n + d = mins (g, b) → d < j → L6_17 k j g b h.1 h.2 g b g b (takeF (g, b)).1.1 (takeF (g, b)).1.2 (takeF (g, b)).2.1.1 (takeF (g, b)).2.1.2 (takeF (g, b)).2.2.1 (takeF (g, b)).1.1 (takeF (g, b)).1.2 (takeF (g, b)).2.1.1 (takeF (g, b)).2.1.2 (takeF (g, b)).2.2.1
      (freeF (g, b) h).1.1 (freeF (g, b) h).1.2 (freeF (g, b) h).2.1 (freeF (g, b) h).1.1 (freeF (g, b) h).1.2 (freeF (g, b) h).2.1 ((cnt b n : Nat) : Int) (n : Int) = some ((true, ()), ())
  | 0, n, j, hn, hj => by
    obtain ⟨j, rfl⟩ : ∃ m, j = m + 1 := ⟨j - 1, by omega⟩
    have tk := take_sm hs
    have fr := free_sm (h := h) hs
    obtain ⟨q1, q2⟩ := hs
    simp only at q1 q2 tk fr
    have hs1 : Sm ((takeF (g, b)).1.1, (takeF (g, b)).1.2) := ⟨by simp only; omega, by simp only; omega⟩
    have hs2 : Sm ((freeF (g, b) h).1.1, (freeF (g, b) h).1.2) := ⟨by simp only; omega, by simp only; omega⟩
    rw [L6_17_s]; unfold l6_17
    rw [mn_eq]
    have hm : mins (g, b) = n := by omega
    rw [bif_f (by unfold mins at hn; simp only at hn; omega), S14_eq hk hs1, S14_eq hk hs2, S15_eq hk ⟨q1, q2⟩, S16_eq, S17_eq hk ⟨q1, q2⟩, hm]
    simp only [Option.bind_some, cond_true, beq_self_eq_true, beqTK]
  | d + 1, n, j, hn, hj => by
    obtain ⟨j, rfl⟩ : ∃ m, j = m + 1 := ⟨j - 1, by omega⟩
    have ih := L17 hk hs (h := h) d (n + 1) j (by omega) (by omega)
    rw [L6_17_s]; unfold l6_17
    obtain ⟨q1, q2⟩ := hs
    simp only at q1 q2
    simp only [cnt] at ih
    have hc := cnt_le b n
    have hm : n < min g.length b.length := by unfold mins at hn; simp only at hn; omega
    rw [mn_eq, bif_t (by omega), ix_nat (by omega), rd_nat, w64_nat (by omega), w64_nat (by omega)]
    cases hb : b.getD n false with
    | true => rw [hb] at ih; simpa using ih
    | false => rw [hb] at ih; simpa using ih

theorem L6 {k : Nat} (hk : 200 ≤ k) {g : List Int} {b : List Bool} (hs : Sm (g, b)) {h : Int × Int} :
    ∀ d n j : Nat, n + d = g.length → d < j → L6_6 k j g b h.1 h.2 (n : Int) = some ((true, ()), ())
  | 0, n, j, hn, hj => by
    obtain ⟨j, rfl⟩ : ∃ m, j = m + 1 := ⟨j - 1, by omega⟩
    rw [L6_6_s]; unfold l6_6
    rw [bif_f (by omega), S10_eq hk hs, S11_eq hk hs, S12_eq hk hs, S13_eq hs]
    simp only [Option.bind_some]
    have := L17 hk hs (h := h) (mins (g, b)) 0 k (by omega) (by obtain ⟨q1, q2⟩ := hs; unfold mins; simp only at q1 q2 ⊢; omega)
    simpa [cnt] using this
  | d + 1, n, j, hn, hj => by
    obtain ⟨j, rfl⟩ : ∃ m, j = m + 1 := ⟨j - 1, by omega⟩
    have ih := L6 hk hs (h := h) d (n + 1) j (by omega) (by omega)
    rw [L6_6_s]; unfold l6_6
    obtain ⟨q1, q2⟩ := hs
    simp only at q1 q2
    rw [bif_t (by omega), ix_nat (by omega), ix_nat (by omega), w64_nat (by omega), ih]
    cases decide (rd g (n : Int) 0 > 1099511627776) with
    | true => rfl
    | false => cases decide (rd g (n : Int) 0 < -1099511627776) <;> rfl

/-- What becomes of lists of any lengths. -/
theorem slotsWild_pure (g : List Int) (b : List Bool) (h : Int × Int) : S6 1000 g b h = some ((true, ()), ()) := by
  unfold S6
  rw [begun_eq]
  simp only [Option.bind_some, Bool.not_true, cond_false]
  by_cases h1 : (g.length : Int) > 10
  · rw [bif_t h1]
  · rw [bif_f h1]
    by_cases h2 : (b.length : Int) > 10
    · rw [bif_t h2]
    · rw [bif_f h2]
      exact L6 (by omega) ⟨by simp only; omega, by simp only; omega⟩ g.length 0 1000 (by omega) (by omega)
theorem wf_u8 {n : Int} (h : (Lit.int .u8 n).wf = true) : 0 ≤ n ∧ n ≤ 255 := by
  simp [Lit.wf, IntKind.min, IntKind.max, IntKind.signed, IntKind.bits] at h
  omega
theorem slotsAll_law (n : Int) (l : List (Int × Int × Int)) (h : Int × Int) (_ : Ty.fine (.int .i64) n) (hl : Ty.fine (.sl 23 (.pair (.int .u8) (.pair (.int .u8) (.int .u8)))) l) (_ : Ty.fine (.pair (.int .i64) (.int .i64)) h) : ∃ k, S3 k n l h = some ((true, ()), ()) :=
  ⟨1000, slotsAll_pure n l h (fun q hq => wf_u8 (hl.2 q hq).2.1)⟩
theorem slotsWild_law (g : List Int) (b : List Bool) (h : Int × Int) (_ : Ty.fine (.sl 3 (.int .i64)) g) (_ : Ty.fine (.sl 4 .bool) b) (_ : Ty.fine (.pair (.int .i64) (.int .i64)) h) : ∃ k, S6 k g b h = some ((true, ()), ()) :=
  ⟨1000, slotsWild_pure g b h⟩
end Go.Proofs.Ytkhahfpjnmebdaa.Ab
