import Derived.Test.YtjnnjciedbgmiaaAbH0
import Derived.Test.YtjnnjciedbgmiaaAbH1
import Derived.Test.YtjnnjciedbgmiaaAbH2
import Derived.Test.YtjnnjciedbgmiaaAbH3
import Derived.KernelRfl
import Derived.Test.YtjnnjciedbgmiaaQMH
/- Numbers that stop at their ends, of numbers that are not below nought. -/
namespace Go.Proofs.Ytjnnjciedbgmiaa.Ab
open Go.RowKit
set_option linter.unusedSimpArgs false
set_option linter.unusedVariables false
theorem u64 {n : Int} (h1 : 0 ≤ n) (h2 : n < 18446744073709551616) : IntKind.u64.wrap n = n := by
 unfold IntKind.wrap
 have e1 : (2 ^ IntKind.u64.bits : Int) = 18446744073709551616 := by decide
 simp only [e1, IntKind.signed, Bool.false_and, Bool.false_eq_true, if_false]
 omega
theorem u64_emod (n : Int) : IntKind.u64.wrap n = n % 18446744073709551616 := by
 unfold IntKind.wrap
 have e1 : (2 ^ IntKind.u64.bits : Int) = 18446744073709551616 := by decide
 simp only [e1, IntKind.signed, Bool.false_and, Bool.false_eq_true, if_false]
theorem u32_emod (n : Int) : IntKind.u32.wrap n = n % 4294967296 := by
 unfold IntKind.wrap
 have e1 : (2 ^ IntKind.u32.bits : Int) = 4294967296 := by decide
 simp only [e1, IntKind.signed, Bool.false_and, Bool.false_eq_true, if_false]
theorem i64_bv (x : BitVec 64) : IntKind.i64.wrap (x.toNat : Int) = x.toInt := by
 have hx := x.isLt
 unfold IntKind.wrap
 have e1 : (2 ^ IntKind.i64.bits : Int) = 18446744073709551616 := by decide
 have e2 : (2 ^ (IntKind.i64.bits - 1) : Int) = 9223372036854775808 := by decide
 simp only [e1, e2, IntKind.signed, Bool.true_and, decide_eq_true_eq, BitVec.toInt_eq_toNat_cond]
 have : (2 : Nat) ^ 64 = 18446744073709551616 := by decide
 rw [this] at hx ⊢
 split <;> split <;> omega
theorem bv_i64 (x : BitVec 64) : BitVec.ofInt 64 x.toInt = x := BitVec.ofInt_toInt
theorem ixor_i64 (a b : Int) : ixor .i64 a b = (BitVec.ofInt 64 a ^^^ BitVec.ofInt 64 b).toInt := i64_bv _
theorem iand_i64 (a b : Int) : iand .i64 a b = (BitVec.ofInt 64 a &&& BitVec.ofInt 64 b).toInt := i64_bv _
theorem msb_nonneg {a : Int} (h1 : 0 ≤ a) (h2 : a ≤ 9223372036854775807) : (BitVec.ofInt 64 a).msb = false := by
 have : (BitVec.ofInt 64 a).toInt = a := by rw [BitVec.toInt_ofInt]; exact Int.bmod_eq_of_le (by omega) (by omega)
 rw [BitVec.msb_eq_toInt, this]; exact decide_eq_false (by omega)
theorem msb_neg {a : Int} (h1 : -9223372036854775808 ≤ a) (h2 : a < 0) : (BitVec.ofInt 64 a).msb = true := by
 have : (BitVec.ofInt 64 a).toInt = a := by rw [BitVec.toInt_ofInt]; exact Int.bmod_eq_of_le (by omega) (by omega)
 rw [BitVec.msb_eq_toInt, this]; exact decide_eq_true (by omega)
theorem sign_add {a b s : Int} (ha : 0 ≤ a ∧ a ≤ 9223372036854775807) (hb : 0 ≤ b ∧ b ≤ 9223372036854775807) (hs : -9223372036854775808 ≤ s ∧ s ≤ 9223372036854775807) :
  decide (iand .i64 (ixor .i64 a s) (ixor .i64 b s) < 0) = decide (s < 0) := by
 rw [iand_i64, ixor_i64, ixor_i64, bv_i64, bv_i64, ← BitVec.msb_eq_toInt, BitVec.msb_and, BitVec.msb_xor, BitVec.msb_xor, msb_nonneg ha.1 ha.2, msb_nonneg hb.1 hb.2]
 by_cases h : s < 0
 ·rw [msb_neg hs.1 h, decide_eq_true h]; rfl
 ·rw [msb_nonneg (by omega) hs.2, decide_eq_false h]; rfl
def capI (n : Int) : Int × Bool := if n ≤ 9223372036854775807 then (n, true) else (9223372036854775807, false)
theorem S62_eq (k : Nat) {a b : Int} (ha : 0 ≤ a ∧ a ≤ 9223372036854775807) (hb : 0 ≤ b ∧ b ≤ 9223372036854775807) : S62 k a b = some (((capI (a + b)).1, (capI (a + b)).2, ()), ()) := by
 unfold S62
 rw [u64 ha.1 (by omega), u64 hb.1 (by omega), u64 (n := a + b) (by omega) (by omega)]
 have hs : IntKind.i64.wrap (a + b) = if a + b ≤ 9223372036854775807 then a + b else a + b - 18446744073709551616 := by
  unfold IntKind.wrap
  have e1 : (2 ^ IntKind.i64.bits : Int) = 18446744073709551616 := by decide
  have e2 : (2 ^ (IntKind.i64.bits - 1) : Int) = 9223372036854775808 := by decide
  simp only [e1, e2, IntKind.signed, Bool.true_and, decide_eq_true_eq]
  split <;> split <;> omega
 rw [sign_add ha hb (by rw [hs]; split <;> omega), hs]
 unfold capI S65
 by_cases h : a + b ≤ 9223372036854775807
 ·rw [if_pos h, if_pos h, bif_f (by omega)]
 ·rw [if_neg h, if_neg h, bif_t (by omega), bif_f (by omega)]; rfl
theorem S62_ok (k : Nat) {a b : Int} (ha : 0 ≤ a) (hb : 0 ≤ b) (h : a + b ≤ 9223372036854775807) : S62 k a b = some ((a + b, true, ()), ()) := by
 rw [S62_eq k ⟨ha, by omega⟩ ⟨hb, by omega⟩]; unfold capI; rw [if_pos h]
theorem ishr_32 {a : Int} : ishr .u64 a 32 = a / 4294967296 := by
 unfold ishr
 show a.fdiv (2 ^ 32) = _
 rw [show ((2 : Int) ^ 32) = 4294967296 by decide, Int.fdiv_eq_ediv_of_nonneg _ (by omega)]
theorem ishl_32 {a : Int} (h1 : 0 ≤ a) (h2 : a < 4294967296) : ishl .u64 a 32 = a * 4294967296 := by
 unfold ishl
 show IntKind.u64.wrap (a * 2 ^ 32) = _
 rw [show ((2 : Int) ^ 32) = 4294967296 by decide, u64 (by omega) (by omega)]
theorem ior_r {a : Int} (h1 : 0 ≤ a) (h2 : a < 18446744073709551616) : ior .u64 a 0 = a := by
 unfold ior
 show IntKind.u64.wrap (((BitVec.ofInt 64 a ||| BitVec.ofInt 64 0).toNat : Nat) : Int) = a
 rw [show BitVec.ofInt 64 0 = 0#64 from rfl, BitVec.or_zero, BitVec.toNat_ofInt, u64 (by omega) (by omega)]
 omega
theorem ior_l {a : Int} (h1 : 0 ≤ a) (h2 : a < 18446744073709551616) : ior .u64 0 a = a := by
 unfold ior
 show IntKind.u64.wrap (((BitVec.ofInt 64 0 ||| BitVec.ofInt 64 a).toNat : Nat) : Int) = a
 rw [show BitVec.ofInt 64 0 = 0#64 from rfl, BitVec.zero_or, BitVec.toNat_ofInt, u64 (by omega) (by omega)]
 omega
theorem S63_eq (k : Nat) {a b : Int} (ha : 0 ≤ a ∧ a ≤ 9223372036854775807) (hb : 0 ≤ b ∧ b ≤ 9223372036854775807) :
  ∃ p, S63 k a b = some ((p, decide (a * b < 18446744073709551616), ()), ()) ∧ (a * b < 18446744073709551616 → p = a * b) := by
 unfold S63
 simp only [ishr_32, u32_emod]
 have A1 : a = a / 4294967296 * 4294967296 + a % 4294967296 := by omega
 have B1 : b = b / 4294967296 * 4294967296 + b % 4294967296 := by omega
 have ah0 : 0 ≤ a / 4294967296 ∧ a / 4294967296 < 2147483648 := by omega
 have bh0 : 0 ≤ b / 4294967296 ∧ b / 4294967296 < 2147483648 := by omega
 have al0 : 0 ≤ a % 4294967296 ∧ a % 4294967296 < 4294967296 := by omega
 have bl0 : 0 ≤ b % 4294967296 ∧ b % 4294967296 < 4294967296 := by omega
 generalize a / 4294967296 = x at *
 generalize b / 4294967296 = y at *
 generalize a % 4294967296 = u at *
 generalize b % 4294967296 = v at *
 have hab : a * b = x * y * 18446744073709551616 + (x * v + u * y) * 4294967296 + u * v := by
  rw [A1, B1]; grind
 have huv : 0 ≤ u * v ∧ u * v < 18446744073709551616 := by
  constructor
  ·exact Int.mul_nonneg al0.1 bl0.1
  ·have : u * v ≤ 4294967295 * 4294967295 := Int.mul_le_mul (by omega) (by omega) bl0.1 (by omega)
   omega
 have hxv : 0 ≤ x * v ∧ x * v < 9223372036854775808 := by
  constructor
  ·exact Int.mul_nonneg ah0.1 bl0.1
  ·have : x * v ≤ 2147483647 * 4294967295 := Int.mul_le_mul (by omega) (by omega) bl0.1 (by omega)
   omega
 have huy : 0 ≤ u * y ∧ u * y < 9223372036854775808 := by
  constructor
  ·exact Int.mul_nonneg al0.1 bh0.1
  ·have : u * y ≤ 4294967295 * 2147483647 := Int.mul_le_mul (by omega) (by omega) bh0.1 (by omega)
   omega
 have hxy : 0 ≤ x * y := Int.mul_nonneg ah0.1 bh0.1
 rw [u64 (n := u) (by omega) (by omega), u64 (n := v) (by omega) (by omega), u64 (n := x * v) (by omega) (by omega), u64 (n := u * y) (by omega) (by omega), u64 (n := u * v) (by omega) (by omega)]
 have mid : x = 0 ∨ y = 0 → ior .u64 (x * v) (u * y) = x * v + u * y := by
  rintro (rfl | rfl)
  ·rw [Int.zero_mul, ior_l (by omega) (by omega)]; omega
  ·rw [Int.mul_zero, ior_r (by omega) (by omega)]; omega
 have tail : x = 0 ∨ y = 0 → ∃ p, (bif decide (ior .u64 (x * v) (u * y) / 4294967296 > 0) then some ((0, false, ()), ()) else
   some ((IntKind.u64.wrap (u * v + ishl .u64 (ior .u64 (x * v) (u * y)) 32), decide (IntKind.u64.wrap (u * v + ishl .u64 (ior .u64 (x * v) (u * y)) 32) ≥ u * v), ()), ()) : Option ((Int × Bool × Unit) × Unit)) = some ((p, decide (a * b < 18446744073709551616), ()), ()) ∧ (a * b < 18446744073709551616 → p = a * b) := by
  intro h0
  have hxy0 : x * y = 0 := by rcases h0 with rfl | rfl <;> simp
  rw [hxy0] at hab
  rw [mid h0]
  have hm0 : 0 ≤ x * v + u * y := by omega
  clear mid
  generalize x * v + u * y = m at hab hm0 ⊢
  by_cases h : m / 4294967296 > 0
  ·rw [bif_t h]
   exact ⟨0, by rw [decide_eq_false (by omega)], fun h2 => by omega⟩
  ·rw [bif_f h, ishl_32 hm0 (by omega)]
   refine ⟨_, by
    rw [show decide (IntKind.u64.wrap (u * v + m * 4294967296) ≥ u * v) = decide (a * b < 18446744073709551616) from ?_]
    rw [u64_emod]
    by_cases h2 : a * b < 18446744073709551616
    ·rw [decide_eq_true h2]; exact decide_eq_true (by omega)
    ·rw [decide_eq_false h2]; exact decide_eq_false (by omega), fun h2 => ?_⟩
   rw [u64_emod]; omega
 by_cases h1 : x > 0
 ·rw [bif_t h1]
  by_cases h2 : y > 0
  ·rw [bif_t h2]
   have : 1 ≤ x * y := by
    have : 1 * 1 ≤ x * y := Int.mul_le_mul (by omega) (by omega) (by omega) (by omega)
    omega
   exact ⟨0, by rw [decide_eq_false (by omega)], fun h => by omega⟩
  ·rw [bif_f h2]; exact tail (.inr (by omega))
 ·rw [bif_f h1]; exact tail (.inl (by omega))
theorem S64_eq (k : Nat) {a : Int} (ha : 0 ≤ a ∧ a ≤ 9223372036854775807) : S64 k a = some ((a, ()), ()) := by
 unfold S64
 rw [bif_f (by omega), u64 ha.1 (by omega)]
theorem S61_eq (k : Nat) {a b : Int} (ha : 0 ≤ a ∧ a ≤ 9223372036854775807) (hb : 0 ≤ b ∧ b ≤ 9223372036854775807) : S61 k a b = some (((capI (a * b)).1, (capI (a * b)).2, ()), ()) := by
 unfold S61
 rw [decide_eq_false (p := a < 0) (by omega), decide_eq_false (p := b < 0) (by omega)]
 simp only [beq_self_eq_true, Bool.not_true, cond_false]
 unfold j61_5
 obtain ⟨p, h1, h2⟩ := S63_eq k ha hb
 have hab : 0 ≤ a * b := Int.mul_nonneg ha.1 hb.1
 rw [S64_eq k ha, S64_eq k hb]
 simp only [Option.bind_some]
 rw [h1, Option.bind_some]
 unfold capI S65
 by_cases h : a * b < 18446744073709551616
 ·rw [h2 h, decide_eq_true h]
  simp only [Bool.not_true, cond_false]
  by_cases h3 : a * b ≤ 9223372036854775807
  ·rw [bif_f (by omega), if_pos h3, w64 (by omega) h3]
  ·rw [bif_t (by omega), if_neg h3]; rfl
 ·rw [decide_eq_false h, if_neg (by omega)]; rfl
theorem S61_ok (k : Nat) {a b : Int} (ha : 0 ≤ a ∧ a ≤ 9223372036854775807) (hb : 0 ≤ b ∧ b ≤ 9223372036854775807) (h : a * b ≤ 9223372036854775807) : S61 k a b = some ((a * b, true, ()), ()) := by
 rw [S61_eq k ha hb]; unfold capI; rw [if_pos h]
end Go.Proofs.Ytjnnjciedbgmiaa.Ab

/- How long programs are: both answers are one. -/
namespace Go.Proofs.Ytjnnjciedbgmiaa.Ab
open Go.RowKit Tr
set_option linter.unusedSimpArgs false
set_option linter.unusedVariables false
def tmA (l : List I4) (j : Int) : List Ar → Int → Int
 | [], acc => acc
 | p :: r, acc => tmA l j r (bif p.2.2.2 && hasA p j then acc * (rd l p.2.2.1 i0).2.2.2 else acc)
theorem tmA_app (l : List I4) (j : Int) : ∀ (a b : List Ar) (acc : Int), tmA l j (a ++ b) acc = tmA l j b (tmA l j a acc)
 | [], _, _ => rfl
 | p :: a, b, acc => by rw [List.cons_append, tmA, tmA, tmA_app l j a b]
theorem tmA_none (l : List I4) (j : Int) : ∀ (a : List Ar) (acc : Int), (∀ p ∈ a, hasA p j = false) → tmA l j a acc = acc
 | [], _, _ => rfl
 | p :: a, acc, h => by rw [tmA, h p List.mem_cons_self, Bool.and_false, cond_false, tmA_none l j a acc (fun q hq => h q (List.mem_cons_of_mem _ hq))]
theorem tmA_bound (l : List I4) (j : Int) : ∀ (a : List Ar) (acc : Int), 1 ≤ acc → (∀ p ∈ a, p.2.2.2 = true → 1 ≤ (rd l p.2.2.1 i0).2.2.2 ∧ (rd l p.2.2.1 i0).2.2.2 ≤ 20) → 1 ≤ tmA l j a acc ∧ tmA l j a acc ≤ acc * 20 ^ cB j a
 | [], acc, h, _ => by rw [tmA]; simp [cB]; exact h
 | p :: a, acc, h, hb => by
  rw [tmA, cB, List.countP_cons, ← cB]
  have ih := fun acc h => tmA_bound l j a acc h (fun q hq => hb q (List.mem_cons_of_mem _ hq))
  cases e : (p.2.2.2 && hasA p j) with
  | false => simp only [cond_false, Bool.false_eq_true, if_false, Nat.add_zero]; exact ih acc h
  | true =>
   rw [Bool.and_eq_true] at e
   have h1 := hb p List.mem_cons_self e.1
   simp only [cond_true, if_true]
   have h2 : 1 * 1 ≤ acc * (rd l p.2.2.1 i0).2.2.2 := Int.mul_le_mul h h1.1 (by omega) (by omega)
   obtain ⟨i1, i2⟩ := ih (acc * (rd l p.2.2.1 i0).2.2.2) (by omega)
   refine ⟨i1, Int.le_trans i2 ?_⟩
   rw [Int.pow_succ, Int.mul_comm (20 ^ cB j a) 20, ← Int.mul_assoc]
   refine Int.mul_le_mul_of_nonneg_right ?_ (Int.pow_nonneg (by omega))
   exact Int.mul_le_mul_of_nonneg_left h1.2 (by omega)
def tms (l : List I4) : List Int := (List.range l.length).map (fun (j : Nat) => tmA l (j : Int) (pcs 0 l) 1)
theorem tms_len (l : List I4) : (tms l).length = l.length := by simp [tms]
theorem tms_get {l : List I4} {j : Nat} (h : j < l.length) : (tms l).getD j 0 = tmA l (j : Int) (pcs 0 l) 1 := by
 rw [getD_in (by rw [tms_len]; exact h)]; simp [tms]
theorem pcs_reps {l : List I4} {ps : List Int} (g : GoodA l ps) : ∀ p ∈ pcs 0 l, p.2.2.2 = true → 1 ≤ (rd l p.2.2.1 i0).2.2.2 ∧ (rd l p.2.2.1 i0).2.2.2 ≤ 20 := by
 intro p hp hb
 have := g.len2
 obtain ⟨n, h1, h2, rfl⟩ := (pcs_mem_iff l 0 p g.may (by omega)).1 hp
 have h3 := may8 (g.may _ (getD_mem (z := i0) h1)) (eq_of_beq hb)
 have : rd l (arOf (0 + n) (l.getD n i0)).2.2.1 i0 = l.getD n i0 := by rw [Nat.zero_add]; exact rd_nat
 rw [this]; exact h3.2.2
theorem tms_bound {l : List I4} {ps : List Int} (g : GoodA l ps) {j : Nat} (h : j < l.length) : 1 ≤ (tms l).getD j 0 ∧ (tms l).getD j 0 ≤ 400 := by
 rw [tms_get h]
 have h1 := tmA_bound l (j : Int) (pcs 0 l) 1 (by omega) (pcs_reps g)
 have h2 := g.bodies j h
 refine ⟨h1.1, Int.le_trans h1.2 ?_⟩
 have : cB (j : Int) (pcs 0 l) = 0 ∨ cB (j : Int) (pcs 0 l) = 1 ∨ cB (j : Int) (pcs 0 l) = 2 := by omega
 rcases this with e | e | e <;> rw [e] <;> decide
/-! ### the document's -/
theorem L50_8_eq {k : Nat} {g4 : List I4 → List Int → List Ar → Int → Option ((List Int × Unit) × Unit)} {l : List I4} {ps : List Int} (g : GoodA l ps) {i : Nat} (hi : i < l.length) : ∀ (m n j : Nat) (out : List Int), n + m = (pcs 0 l).length → m < j → out.length = l.length → 1 ≤ out.getD i 0 → out.getD i 0 * 20 ^ cB i ((pcs 0 l).drop n) ≤ 400 →
  L50_8 k g4 j l out (pcs 0 l) (i : Int) n = g4 l (out.set i (tmA l i ((pcs 0 l).drop n) (out.getD i 0))) (pcs 0 l) ((i + 1 : Nat) : Int)
 | 0, n, j, out, h, hj, ho, h1, h2 => by
  obtain ⟨j', rfl⟩ : ∃ j', j = j' + 1 := ⟨j - 1, by omega⟩
  have := g.len2
  rw [L50_8_s, l50_8, bif_f (by omega), drop_nil (by omega), tmA, w64_nat (by omega)]
  have : out.set i (out.getD i 0) = out := by rw [getD_in (by omega)]; simp
  rw [this]
 | m + 1, n, j, out, h, hj, ho, h1, h2 => by
  obtain ⟨j', rfl⟩ : ∃ j', j = j' + 1 := ⟨j - 1, by omega⟩
  have hl2 := g.len2
  have hpl := pcs_len l 0
  have ih := L50_8_eq (k := k) (g4 := g4) g hi m (n + 1) j'
  have hn : n < (pcs 0 l).length := by omega
  have hp := getD_mem (z := a0) hn
  have hsh := pcs_shape g.may (by omega) hp
  have hrp := pcs_reps g _ hp
  rw [drop_cons a0 hn] at h2 ⊢
  rw [L50_8_s, l50_8, bif_t (by omega), ix_nat hn, rd_nat, w64_nat (by omega), tmA]
  generalize (pcs 0 l).getD n a0 = p at hsh hrp h2 ⊢
  rw [cB, List.countP_cons, ← cB] at h2
  cases hb : p.2.2.2 with
  | false =>
   rw [hb] at h2
   simp only [Bool.false_and, Bool.false_eq_true, if_false, Nat.add_zero] at h2
   exact ih out (by omega) (by omega) ho h1 h2
  | true =>
   rw [cond_true, ix_nat hn, S34_eq, Option.bind_some, Bool.true_and]
   rw [hb, Bool.true_and] at h2
   cases hh : hasA p i with
   | false =>
    rw [hh] at h2
    simp only [Bool.false_eq_true, if_false, Nat.add_zero] at h2
    exact ih out (by omega) (by omega) ho h1 h2
   | true =>
    rw [hh] at h2
    simp only [if_true] at h2
    have hr := hrp hb
    simp only [cond_true]
    rw [ix_nat (by omega), ix_nat hn, ix_ok (by omega) (by omega), ix_nat (by omega), rd_nat, upd_nat]
    have hset : (out.set i (out.getD i 0 * (rd l p.2.2.1 i0).2.2.2)).getD i 0 = out.getD i 0 * (rd l p.2.2.1 i0).2.2.2 := by rw [set_get, if_pos ⟨rfl, by omega⟩]
    have hge : 1 * 1 ≤ out.getD i 0 * (rd l p.2.2.1 i0).2.2.2 := Int.mul_le_mul h1 hr.1 (by omega) (by omega)
    have hle : out.getD i 0 * (rd l p.2.2.1 i0).2.2.2 * 20 ^ cB i ((pcs 0 l).drop (n + 1)) ≤ 400 := by
     refine Int.le_trans ?_ h2
     rw [Int.pow_succ, Int.mul_comm (20 ^ cB (i : Int) ((pcs 0 l).drop (n + 1))) 20, ← Int.mul_assoc]
     refine Int.mul_le_mul_of_nonneg_right ?_ (Int.pow_nonneg (by omega))
     exact Int.mul_le_mul_of_nonneg_left hr.2 (by omega)
    have hsmall : out.getD i 0 * (rd l p.2.2.1 i0).2.2.2 ≤ 400 := by
     refine Int.le_trans ?_ hle
     have : (1 : Int) ≤ 20 ^ cB (i : Int) ((pcs 0 l).drop (n + 1)) := (Int.pow_pos (by omega) : (0 : Int) < 20 ^ cB (i : Int) ((pcs 0 l).drop (n + 1)))
     have := Int.mul_le_mul_of_nonneg_left this (show 0 ≤ out.getD i 0 * (rd l p.2.2.1 i0).2.2.2 by omega)
     omega
    rw [w64 (n := out.getD i 0 * (rd l p.2.2.1 i0).2.2.2) (by omega) (by omega)]
    have := ih (out.set i (out.getD i 0 * (rd l p.2.2.1 i0).2.2.2)) (by omega) (by omega) (by rw [List.length_set]; exact ho) (by rw [hset]; omega) (by rw [hset]; exact hle)
    rw [hset, List.set_set] at this
    exact this
theorem S50_eq {k : Nat} (hk : 1000 ≤ k) {l : List I4} {ps : List Int} (g : GoodA l ps) : S50 k l = some ((tms l, ()), ()) := by
 unfold S50
 have hl2 := g.len2
 have hpl := pcs_len l 0
 rw [mk_ok (by omega) (by omega), S33_eq hk (by omega), Option.bind_some]
 have := loopF (L := fun j (out : List Int) i => L50_4 k j l out (pcs 0 l) i) (n := l.length)
  (fun i out => out.length = l.length ∧ ∀ j, j < i → out.getD j 0 = tmA l (j : Int) (pcs 0 l) 1)
  (fun i out => out.set i (tmA l (i : Int) (pcs 0 l) 1)) (fun out => some ((out, ()), ()))
  (fun j i out hi hv => by
   show L50_4 k (j + 1) l out (pcs 0 l) (i : Int) = _
   rw [L50_4_s, l50_4, bif_t (by omega), ix_nat (by omega), upd_nat]
   have hset : (out.set i 1).getD i 0 = 1 := by rw [set_get, if_pos ⟨rfl, by omega⟩]
   have hb := g.bodies i hi
   refine (L50_8_eq g hi (pcs 0 l).length 0 k (out.set i 1) (by omega) (by omega) (by rw [List.length_set]; exact hv.1) (by rw [hset]; omega) (by
    rw [hset, List.drop_zero]
    have : cB (i : Int) (pcs 0 l) = 0 ∨ cB (i : Int) (pcs 0 l) = 1 ∨ cB (i : Int) (pcs 0 l) = 2 := by omega
    rcases this with e | e | e <;> rw [e] <;> decide)).trans ?_
   rw [hset, List.set_set, List.drop_zero])
  (fun i out hi hv => by
   refine ⟨by rw [List.length_set]; exact hv.1, fun j hj => ?_⟩
   rw [set_get]
   by_cases e : i = j
   ·subst e; rw [if_pos ⟨rfl, by omega⟩]
   ·rw [if_neg (fun h => e h.1)]; exact hv.2 j (by omega))
  (fun j out hv => by
   show L50_4 k (j + 1) l out (pcs 0 l) (l.length : Int) = _
   rw [L50_4_s, l50_4, bif_f (by omega)])
  l.length 0 k (List.replicate l.length 0) (by omega) (by omega) ⟨by simp, fun j hj => by omega⟩
 refine Eq.trans this ?_
 have hv := goF_inv (inv := fun i (out : List Int) => out.length = l.length ∧ ∀ j, j < i → out.getD j 0 = tmA l (j : Int) (pcs 0 l) 1) (f := fun i out => out.set i (tmA l (i : Int) (pcs 0 l) 1)) (n := l.length) (fun i out hi hv => by
   refine ⟨by rw [List.length_set]; exact hv.1, fun j hj => ?_⟩
   rw [set_get]
   by_cases e : i = j
   ·subst e; rw [if_pos ⟨rfl, by have := hv.1; omega⟩]
   ·rw [if_neg (fun h => e h.1)]; exact hv.2 j (by omega)) l.length 0 (List.replicate l.length 0) (by omega) ⟨by simp, fun j hj => by omega⟩
 have : goF (fun i (out : List Int) => out.set i (tmA l (i : Int) (pcs 0 l) 1)) l.length 0 (List.replicate l.length 0) = tms l := by
  apply List.ext_getElem (by rw [hv.1, tms_len])
  intro n h1 h2
  rw [← getD_in (z := 0) h1, ← getD_in (z := 0) h2, tms_get (by rw [tms_len] at h2; exact h2), hv.2 n (by rw [tms_len] at h2; exact h2)]
 rw [this]
/-! ### the program's -/
def mulR (c : Int) : List Int → Nat → Nat → List Int
 | out, _, 0 => out
 | out, i, m + 1 => mulR c (out.set i (out.getD i 0 * c)) (i + 1) m
theorem mulR_len (c : Int) : ∀ (m i : Nat) (out : List Int), (mulR c out i m).length = out.length
 | 0, _, _ => rfl
 | m + 1, i, out => by rw [mulR, mulR_len c m, List.length_set]
theorem mulR_get (c : Int) : ∀ (m i : Nat) (out : List Int) (j : Nat), i + m ≤ out.length → (mulR c out i m).getD j 0 = if i ≤ j ∧ j < i + m then out.getD j 0 * c else out.getD j 0
 | 0, i, out, j, _ => by rw [mulR, if_neg (by omega)]
 | m + 1, i, out, j, h => by
  rw [mulR, mulR_get c m (i + 1) _ j (by simp only [List.length_set]; omega), set_get]
  by_cases e : i = j
  ·subst e
   rw [if_neg (by omega), if_pos ⟨rfl, by omega⟩, if_pos (by omega)]
  ·rw [if_neg (fun h : i = j ∧ j < out.length => e h.1)]
   by_cases e2 : i + 1 ≤ j ∧ j < i + 1 + m
   ·rw [if_pos e2, if_pos (by omega)]
   ·rw [if_neg e2, if_neg (by omega)]
theorem L48_12_eq {k : Nat} {g8 : List Int → List I4 → Int → Int → Option ((List Int × Unit) × Unit)} {i x x1 x2 c t21 t22 : Int} {t20 : List I4} (hc : 1 ≤ c ∧ c ≤ 20) : ∀ (m n j : Nat) (out : List Int), i + x2 + 1 = ((n + m : Nat) : Int) → n + m ≤ out.length → out.length ≤ 900 → m < j → (∀ j, n ≤ j → j < n + m → 1 ≤ out.getD j 0 ∧ out.getD j 0 * c ≤ 400) →
  L48_12 k g8 j out i x x1 x2 c n t20 t21 t22 = g8 (mulR c out n m) t20 t21 (IntKind.i64.wrap (t22 + 1))
 | 0, n, j, out, h, ho, hl, hj, hb => by
  obtain ⟨j', rfl⟩ : ∃ j', j = j' + 1 := ⟨j - 1, by omega⟩
  rw [L48_12_s, l48_12, w64 (by omega) (by omega), bif_f (by omega), mulR]
 | m + 1, n, j, out, h, ho, hl, hj, hb => by
  obtain ⟨j', rfl⟩ : ∃ j', j = j' + 1 := ⟨j - 1, by omega⟩
  have h1 := hb n (by omega) (by omega)
  have h2 : out.getD n 0 ≤ 400 := by
   have := Int.mul_le_mul_of_nonneg_left hc.1 (show 0 ≤ out.getD n 0 by omega)
   omega
  rw [L48_12_s, l48_12, w64 (by omega) (by omega), bif_t (by omega), ix_nat (by omega), rd_nat, S61_ok k (by omega) (by omega) (by omega), Option.bind_some, ix_nat (by omega), w64_nat (by omega), upd_nat, mulR]
  refine L48_12_eq hc m (n + 1) j' _ (by omega) (by simp only [List.length_set]; omega) (by simp only [List.length_set]; omega) (by omega) (fun j hj1 hj2 => ?_)
  rw [set_get, if_neg (by omega)]
  exact hb j (by omega) (by omega)
theorem cB_le_app {j : Int} {a b : List Ar} : cB j a ≤ cB j (a ++ b) := by rw [cB_app]; omega
theorem pcs_snoc {l : List I4} {i : Nat} (hi : i < l.length) : pcs 0 (l.take (i + 1)) = pcs 0 (l.take i) ++ pc i (l.getD i i0) := by
 have : l.take (i + 1) = l.take i ++ [l.getD i i0] := by rw [List.take_add_one, getD_in hi, List.getElem?_eq_getElem hi]; rfl
 rw [this, pcs_app, List.length_take, Nat.zero_add, show min i l.length = i by omega]
 simp [pcs]
theorem pcs_split {l : List I4} {i : Nat} (hi : i ≤ l.length) : pcs 0 l = pcs 0 (l.take i) ++ pcs i (l.drop i) := by
 have := pcs_app (l.take i) (l.drop i) 0
 rw [List.take_append_drop, List.length_take, Nat.zero_add, show min i l.length = i by omega] at this
 exact this
theorem S48_eq {k : Nat} (hk : 1000 ≤ k) {l : List I4} {ps : List Int} (g : GoodA l ps) : S48 k l = some ((tms l, ()), ()) := by
 unfold S48
 have hl2 := g.len2
 rw [mk_ok (by omega) (by omega), List.length_replicate, Int.toNat_natCast]
 have h1 := loopF (L := fun j (out : List Int) i => L48_3 k j l out (l.length : Int) i) (n := l.length)
  (fun i out => out.length = l.length ∧ ∀ j, j < i → out.getD j 0 = 1)
  (fun i out => out.set i 1) (fun out => L48_8 k k out l (l.length : Int) 0)
  (fun j i out hi hv => by
   show L48_3 k (j + 1) l out (l.length : Int) (i : Int) = _
   rw [L48_3_s, l48_3, bif_t (by omega), ix_nat (by omega), upd_nat, w64_nat (by omega)])
  (fun i out hi hv => by
   refine ⟨by rw [List.length_set]; exact hv.1, fun j hj => ?_⟩
   rw [set_get]
   by_cases e : i = j
   ·subst e; rw [if_pos ⟨rfl, by omega⟩]
   ·rw [if_neg (fun h => e h.1)]; exact hv.2 j (by omega))
  (fun j out hv => by
   show L48_3 k (j + 1) l out (l.length : Int) (l.length : Int) = _
   rw [L48_3_s, l48_3, bif_f (by omega)])
  l.length 0 k (List.replicate l.length 0) (by omega) (by omega) ⟨by simp, fun j hj => by omega⟩
 refine Eq.trans h1 ?_
 have hv := goF_inv (inv := fun i (out : List Int) => out.length = l.length ∧ ∀ j, j < i → out.getD j 0 = 1) (f := fun i out => out.set i 1) (n := l.length) (fun i out hi hv => by
   refine ⟨by rw [List.length_set]; exact hv.1, fun j hj => ?_⟩
   rw [set_get]
   by_cases e : i = j
   ·subst e; rw [if_pos ⟨rfl, by have := hv.1; omega⟩]
   ·rw [if_neg (fun h => e h.1)]; exact hv.2 j (by omega)) l.length 0 (List.replicate l.length 0) (by omega) ⟨by simp, fun j hj => by omega⟩
 generalize goF (fun i (out : List Int) => out.set i 1) l.length 0 (List.replicate l.length 0) = out0 at hv ⊢
 have hinv : ∀ i (out : List Int), i < l.length → (out.length = l.length ∧ ∀ j, j < l.length → out.getD j 0 = tmA l (j : Int) (pcs 0 (l.take i)) 1) → ((if (l.getD i i0).1 = 8 then mulR (l.getD i i0).2.2.2 out (i + 1) (wd (l.getD i i0)) else out).length = l.length ∧ ∀ j, j < l.length → (if (l.getD i i0).1 = 8 then mulR (l.getD i i0).2.2.2 out (i + 1) (wd (l.getD i i0)) else out).getD j 0 = tmA l (j : Int) (pcs 0 (l.take (i + 1))) 1) := by
  intro i out hi ⟨h2, h3⟩
  have hm := g.may _ (getD_mem (z := i0) hi)
  by_cases e : (l.getD i i0).1 = 8
  ·have hA : isA (l.getD i i0) = true := by simp only [isA, e]; rfl
   have hw := mayA_wd hm hA
   have hlast := g.last (arOf i (l.getD i i0)) ((pcs_mem_iff l 0 _ g.may (by omega)).2 ⟨i, hi, hA, by rw [Nat.zero_add]⟩)
   have e2 : (arOf i (l.getD i i0)).2.1 = ((i + wd (l.getD i i0) : Nat) : Int) := rfl
   rw [if_pos e]
   refine ⟨by rw [mulR_len]; exact h2, fun j hj => ?_⟩
   rw [mulR_get _ _ _ _ _ (by omega), pcs_snoc hi, tmA_app, ← h3 j hj, pc_may hm (by omega), if_pos hA, tmA, tmA]
   have e3 : (arOf i (l.getD i i0)).2.2.2 = true := by simp only [arOf, e]; rfl
   have e4 : (arOf i (l.getD i i0)).2.2.1 = (i : Int) := rfl
   rw [e3, e4, rd_nat, Bool.true_and]
   by_cases h5 : i + 1 ≤ j ∧ j < i + 1 + wd (l.getD i i0)
   ·rw [if_pos h5, show hasA (arOf i (l.getD i i0)) (j : Int) = true by rw [has_iff]; simp only [arOf]; omega]; rfl
   ·rw [if_neg h5, show hasA (arOf i (l.getD i i0)) (j : Int) = false by rw [← Bool.not_eq_true, has_iff]; simp only [arOf]; omega]; rfl
  ·rw [if_neg e]
   refine ⟨h2, fun j hj => ?_⟩
   rw [pcs_snoc hi, tmA_app, ← h3 j hj, pc_may hm (by omega)]
   split
   ·have e3 : (arOf i (l.getD i i0)).2.2.2 = false := by simp only [arOf]; simpa using e
    rw [tmA, tmA, e3]; rfl
   ·rfl
 have h2 := loopF (L := fun j (out : List Int) i => L48_8 k j out l (l.length : Int) i) (n := l.length)
  (fun i out => out.length = l.length ∧ ∀ j, j < l.length → out.getD j 0 = tmA l (j : Int) (pcs 0 (l.take i)) 1)
  (fun i out => if (l.getD i i0).1 = 8 then mulR (l.getD i i0).2.2.2 out (i + 1) (wd (l.getD i i0)) else out) (fun out => some ((out, ()), ()))
  (fun j i out hi hv => by
   show L48_8 k (j + 1) out l (l.length : Int) (i : Int) = _
   rw [L48_8_s, l48_8, bif_t (by omega), ix_nat hi, rd_nat, w64_nat (by omega)]
   have hm := g.may _ (getD_mem (z := i0) hi)
   by_cases e : (l.getD i i0).1 = 8
   ·have hA : isA (l.getD i i0) = true := by simp only [isA, e]; rfl
    have hw := mayA_wd hm hA
    have hlast := g.last (arOf i (l.getD i i0)) ((pcs_mem_iff l 0 _ g.may (by omega)).2 ⟨i, hi, hA, by rw [Nat.zero_add]⟩)
    have e2 : (arOf i (l.getD i i0)).2.1 = ((i + wd (l.getD i i0) : Nat) : Int) := rfl
    have e3 : (arOf i (l.getD i i0)).2.2.2 = true := by simp only [arOf, e]; rfl
    have hN := (may8 hm e).2.2
    have hpm : arOf i (l.getD i i0) ∈ pcs 0 l := (pcs_mem_iff l 0 _ g.may (by omega)).2 ⟨i, hi, hA, by rw [Nat.zero_add]⟩
    rw [if_pos e, show ((l.getD i i0).1 != 8) = false by rw [e]; rfl, cond_false]
    refine (L48_12_eq (x2 := (l.getD i i0).2.2.1) hN (wd (l.getD i i0)) (i + 1) k out (by have := hw.2.2.1 e; omega) (by omega) (by omega) (by omega) (fun j hj1 hj2 => ?_)).trans (by rw [w64_nat (by omega)])
    rw [hv.2 j (by omega)]
    have hsplit := pcs_split (l := l) (i := i) (by omega)
    have hb := g.bodies j (by omega)
    have hcb : cB (j : Int) (pcs 0 (l.take i)) + 1 ≤ 2 := by
     have hs2 := pcs_split (l := l) (i := i + 1) (by omega)
     rw [hs2, pcs_snoc hi, cB_app, cB_app, pc_may hm (by omega), if_pos hA] at hb
     have : cB (j : Int) [arOf i (l.getD i i0)] = 1 := by
      rw [cB, List.countP_cons, List.countP_nil, e3, show hasA (arOf i (l.getD i i0)) (j : Int) = true by rw [has_iff]; simp only [arOf]; omega]; rfl
     omega
    have hbd := tmA_bound l (j : Int) (pcs 0 (l.take i)) 1 (by omega) (fun p hp => pcs_reps g p (by rw [hsplit]; exact List.mem_append_left _ hp))
    refine ⟨hbd.1, ?_⟩
    have h20 : tmA l (j : Int) (pcs 0 (l.take i)) 1 ≤ 20 := by
     refine Int.le_trans hbd.2 ?_
     have : cB (j : Int) (pcs 0 (l.take i)) = 0 ∨ cB (j : Int) (pcs 0 (l.take i)) = 1 := by omega
     rcases this with e | e <;> rw [e] <;> decide
    have := Int.mul_le_mul h20 hN.2 (by omega) (by omega)
    omega
   ·rw [if_neg e, show ((l.getD i i0).1 != 8) = true by simpa using e, cond_true])
  hinv
  (fun j out hv => by
   show L48_8 k (j + 1) out l (l.length : Int) (l.length : Int) = _
   rw [L48_8_s, l48_8, bif_f (by omega)])
  l.length 0 k out0 (by omega) (by omega) ⟨hv.1, fun j hj => by rw [hv.2 j hj]; rfl⟩
 refine Eq.trans h2 ?_
 have hv2 := goF_inv (n := l.length) hinv l.length 0 out0 (by omega) ⟨hv.1, fun j hj => by rw [hv.2 j hj]; rfl⟩
 generalize goF (fun i (out : List Int) => if (l.getD i i0).1 = 8 then mulR (l.getD i i0).2.2.2 out (i + 1) (wd (l.getD i i0)) else out) l.length 0 out0 = out1 at hv2 ⊢
 rw [List.take_length] at hv2
 have : out1 = tms l := by
  apply List.ext_getElem (by rw [hv2.1, tms_len])
  intro n h1 h2
  rw [tms_len] at h2
  rw [← getD_in (z := 0) h1, ← getD_in (z := 0) (by rw [tms_len]; exact h2), tms_get h2, hv2.2 n h2]
 rw [this]
end Go.Proofs.Ytjnnjciedbgmiaa.Ab

/- How long programs are: the answer told. -/
namespace Go.Proofs.Ytjnnjciedbgmiaa.Ab
open Go.RowKit Tr
set_option linter.unusedSimpArgs false
set_option linter.unusedVariables false
def sm : List Int → Int
 | [] => 0
 | x :: r => x + sm r
theorem sm_app : ∀ a b : List Int, sm (a ++ b) = sm a + sm b
 | [], b => by simp [sm]
 | x :: a, b => by rw [List.cons_append, sm, sm, sm_app a b]; omega
theorem sm_bound {c : Int} : ∀ (a : List Int), (∀ x ∈ a, 0 ≤ x ∧ x ≤ c) → 0 ≤ sm a ∧ sm a ≤ a.length * c
 | [], _ => by simp [sm]
 | x :: a, h => by
  have h1 := h x List.mem_cons_self
  have h2 := sm_bound a (fun y hy => h y (List.mem_cons_of_mem _ hy))
  rw [sm, List.length_cons]
  refine ⟨by omega, ?_⟩
  have : ((a.length + 1 : Nat) : Int) * c = (a.length : Int) * c + c := by rw [show ((a.length + 1 : Nat) : Int) = (a.length : Int) + 1 by omega, Int.add_mul, Int.one_mul]
  omega
theorem sm_nonneg : ∀ (a : List Int), (∀ x ∈ a, 0 ≤ x) → 0 ≤ sm a
 | [], _ => by simp [sm]
 | x :: a, h => by
  have h1 := h x List.mem_cons_self
  have h2 := sm_nonneg a (fun y hy => h y (List.mem_cons_of_mem _ hy))
  rw [sm]; omega
theorem L49_2_eq {k : Nat} {l : List Int} (hl : l.length ≤ 900) (hb : ∀ x ∈ l, 0 ≤ x) : ∀ (m i j : Nat) (s : Int), i + m = l.length → m < j → 0 ≤ s → s + sm (l.drop i) ≤ 9223372036854775807 → L49_2 k j s l (l.length : Int) i = some ((s + sm (l.drop i), ()), ())
 | 0, i, j, s, h, hj, h0, h1 => by
  obtain ⟨j', rfl⟩ : ∃ j', j = j' + 1 := ⟨j - 1, by omega⟩
  rw [L49_2_s, l49_2, bif_f (by omega), drop_nil (by omega), sm, Int.add_zero]
 | m + 1, i, j, s, h, hj, h0, h1 => by
  obtain ⟨j', rfl⟩ : ∃ j', j = j' + 1 := ⟨j - 1, by omega⟩
  have hx := hb _ (getD_mem (z := 0) (l := l) (i := i) (by omega))
  have hr := sm_nonneg (l.drop (i + 1)) (fun x hx => hb x (List.mem_of_mem_drop hx))
  rw [drop_cons 0 (show i < l.length by omega), sm] at h1 ⊢
  rw [L49_2_s, l49_2, bif_t (by omega), ix_nat (by omega), rd_nat, S62_ok k h0 hx (by omega), Option.bind_some, w64_nat (by omega)]
  dsimp only
  rw [L49_2_eq hl hb m (i + 1) j' _ (by omega) (by omega) (by omega) (by omega)]
  congr 3; omega
theorem S49_eq {k : Nat} (hk : 1000 ≤ k) {l : List Int} (hl : l.length ≤ 900) (hb : ∀ x ∈ l, 0 ≤ x) (hs : sm l ≤ 9223372036854775807) : S49 k l = some ((sm l, ()), ()) := by
 unfold S49
 have := L49_2_eq (k := k) hl hb l.length 0 k 0 (by omega) (by omega) (by omega) (by rw [List.drop_zero]; omega)
 rw [List.drop_zero, Int.zero_add] at this
 exact this
def cg (l : List I4) (ts ps : List Int) : Nat → Nat → Int → List (Int × Int) → Int → Int × List (Int × Int)
 | 0, _, c1, c2, _ => (c1, c2)
 | m + 1, i, c1, c2, p =>
  if (l.getD i i0).1 = 11 ∨ (l.getD i i0).1 = 0 then cg l ts ps m (i + 1) (max c1 (p + ts.getD i 0)) c2 0
  else if (l.getD i i0).1 = 9 then cg l ts ps m (i + 1) c1 (c2 ++ [((l.getD i i0).2.1, Int.tdiv (sm (sub ts ((i + 1 : Nat) : Int) (ps.getD i 0 + 1))) (ts.getD i 0))]) (p + ts.getD i 0)
  else cg l ts ps m (i + 1) c1 c2 (p + ts.getD i 0)
def costR (l : List I4) (ps : List Int) : Int × Int × List (Int × Int) := (sm (tms l), cg l (tms l) ps l.length 0 0 [] 0)
theorem sub_snoc {xs : List Int} {f i : Nat} (hf : f ≤ i) (hi : i < xs.length) : sub xs (f : Int) ((i + 1 : Nat) : Int) = sub xs (f : Int) (i : Int) ++ [xs.getD i 0] := by
 simp only [sub, Int.toNat_natCast]
 have : xs.take (i + 1) = xs.take i ++ [xs.getD i 0] := by rw [List.take_add_one, getD_in hi, List.getElem?_eq_getElem hi]; rfl
 rw [this, List.drop_append_of_le_length (by rw [List.length_take]; omega)]
theorem sub_mem {xs : List Int} {a b : Int} {x : Int} (h : x ∈ sub xs a b) : x ∈ xs := List.mem_of_mem_take (List.mem_of_mem_drop h)
theorem sub_len {xs : List Int} {a b : Int} : (sub xs a b).length ≤ xs.length := by
 simp only [sub, List.length_drop, List.length_take]; omega
theorem tms_mem {l : List I4} {ps : List Int} (g : GoodA l ps) : ∀ x ∈ tms l, 1 ≤ x ∧ x ≤ 400 := fun x hx => by
 obtain ⟨j, hj, rfl⟩ := mem_getD 0 hx
 exact tms_bound g (by rw [tms_len] at hj; exact hj)
theorem sm_sub {l : List I4} {ps : List Int} (g : GoodA l ps) (a b : Int) : 0 ≤ sm (sub (tms l) a b) ∧ sm (sub (tms l) a b) ≤ 9600 := by
 have := sm_bound (c := 400) (sub (tms l) a b) (fun x hx => by have := tms_mem g x (sub_mem hx); omega)
 have h2 : (sub (tms l) a b).length ≤ l.length := by rw [← tms_len l]; exact sub_len
 have h3 := g.len2
 refine ⟨this.1, ?_⟩
 have h4 : ((sub (tms l) a b).length : Int) * 400 ≤ 24 * 400 := Int.mul_le_mul_of_nonneg_right (by omega) (by omega)
 omega
theorem S49_sub {k : Nat} (hk : 1000 ≤ k) {l : List I4} {ps : List Int} (g : GoodA l ps) (a b : Int) : S49 k (sub (tms l) a b) = some ((sm (sub (tms l) a b), ()), ()) := by
 have h2 : (sub (tms l) a b).length ≤ l.length := by rw [← tms_len l]; exact sub_len
 have h3 := g.len2
 have h4 := sm_sub g a b
 exact S49_eq hk (by omega) (fun x hx => by have := tms_mem g x (sub_mem hx); omega) (by omega)
theorem lock_in {l : List I4} {ps : List Int} (g : GoodA l ps) {i : Nat} (hi : i < l.length) (h9 : (l.getD i i0).1 = 9) : ∃ u : Nat, ps.getD i 0 = (u : Int) ∧ i < u ∧ u < l.length := by
 obtain ⟨u, h1, h2, h3, _⟩ := (prI_prs g.pairs).closed i hi h9 (by simp)
 exact ⟨u, h1, h2, h3⟩
theorem L26_7_eq {k : Nat} (hk : 1000 ≤ k) {l : List I4} {ps : List Int} (g : GoodA l ps) {c : Int} : ∀ (m i j f : Nat) (c1 : Int) (c2 : List (Int × Int)), i + m = l.length → m < j → f ≤ i → c2.length ≤ i →
  L26_7 k j c c1 c2 (tms l) (f : Int) ps l (l.length : Int) (i : Int) = some (((c, cg l (tms l) ps m i c1 c2 (sm (sub (tms l) f i))), true, ()), ())
 | 0, i, j, f, c1, c2, h, hj, hf, hc => by
  obtain ⟨j', rfl⟩ : ∃ j', j = j' + 1 := ⟨j - 1, by omega⟩
  rw [L26_7_s, l26_7, bif_f (by omega), cg]
 | m + 1, i, j, f, c1, c2, h, hj, hf, hc => by
  obtain ⟨j', rfl⟩ : ∃ j', j = j' + 1 := ⟨j - 1, by omega⟩
  have hl2 := g.len2
  have htl := tms_len l
  have hpl := prs_len g.pairs
  have hi : i < l.length := by omega
  have hsn : sm (sub (tms l) (f : Int) ((i + 1 : Nat) : Int)) = sm (sub (tms l) f i) + (tms l).getD i 0 := by rw [sub_snoc hf (by omega), sm_app, sm, sm]; omega
  have h0 : sm (sub (tms l) ((i + 1 : Nat) : Int) ((i + 1 : Nat) : Int)) = 0 := by
   have : sub (tms l) ((i + 1 : Nat) : Int) ((i + 1 : Nat) : Int) = [] := by simp [sub]
   rw [this]; rfl
  rw [L26_7_s, l26_7, bif_t (by omega), ix_nat hi, rd_nat, w64_nat (by omega), cg]
  have mark : L26_7 k j' c (mx c1 (sm (sub (tms l) (f : Int) ((i + 1 : Nat) : Int)))) c2 (tms l) ((i + 1 : Nat) : Int) ps l (l.length : Int) ((i + 1 : Nat) : Int) = some (((c, cg l (tms l) ps m (i + 1) (max c1 (sm (sub (tms l) f i) + (tms l).getD i 0)) c2 0), true, ()), ()) := by
   rw [L26_7_eq hk g m (i + 1) j' (i + 1) _ _ (by omega) (by omega) (by omega) (by omega), h0, hsn, mx_eq]
  cases h11 : (l.getD i i0).1 == 11 with
  | true =>
   have e := eq_of_beq h11
   rw [if_pos (.inl e), cond_true, sx_ok (by omega) (by omega) (by omega), S49_sub hk g, Option.bind_some]
   exact mark
  | false =>
   rw [cond_false]
   have e11 : (l.getD i i0).1 ≠ 11 := by intro e; rw [e] at h11; cases h11
   cases h00 : (l.getD i i0).1 == 0 with
   | true =>
    have e := eq_of_beq h00
    rw [if_pos (.inr e), cond_true, sx_ok (by omega) (by omega) (by omega), S49_sub hk g, Option.bind_some]
    exact mark
   | false =>
    rw [cond_false]
    have e00 : (l.getD i i0).1 ≠ 0 := by intro e; rw [e] at h00; cases h00
    rw [if_neg (by rintro (h | h); exact e11 h; exact e00 h)]
    cases h9 : (l.getD i i0).1 == 9 with
    | true =>
     have e := eq_of_beq h9
     obtain ⟨u, h1, h2, h3⟩ := lock_in g hi e
     have ht := tms_bound g hi
     rw [if_pos e, cond_true, ix_nat (by omega), rd_nat, h1, w64_nat (by omega), sx_ok (by omega) (by omega) (by omega), S49_sub hk g, Option.bind_some]
     dsimp only
     rw [ix_nat (by omega), rd_nat, nz_ok (by omega), ap_ok (by simp only [List.length_cons, List.length_nil]; omega)]
     have hs := sm_sub g ((i + 1 : Nat) : Int) ((u + 1 : Nat) : Int)
     have hd : 0 ≤ Int.tdiv (sm (sub (tms l) ((i + 1 : Nat) : Int) ((u + 1 : Nat) : Int))) ((tms l).getD i 0) ∧ Int.tdiv (sm (sub (tms l) ((i + 1 : Nat) : Int) ((u + 1 : Nat) : Int))) ((tms l).getD i 0) ≤ 9600 := by
      rw [Int.tdiv_eq_ediv_of_nonneg hs.1]
      exact ⟨Int.ediv_nonneg hs.1 (by omega), Int.le_trans (Int.ediv_le_self _ hs.1) hs.2⟩
     rw [w64 (by omega) (by omega), L26_7_eq hk g m (i + 1) j' f _ _ (by omega) (by omega) (by omega) (by simp only [List.length_append, List.length_cons, List.length_nil]; omega), hsn, show ((u : Int) + 1) = ((u + 1 : Nat) : Int) by omega]
    | false =>
     have e9 : (l.getD i i0).1 ≠ 9 := by intro e; rw [e] at h9; cases h9
     rw [cond_false, if_neg e9, L26_7_eq hk g m (i + 1) j' f _ _ (by omega) (by omega) (by omega) (by omega), hsn]
theorem sub_all (l : List Int) : sub l ((0 : Nat) : Int) (l.length : Int) = l := by simp [sub]
def costO (l : List I4) (c : Option (Int × Int × List (Int × Int))) : Option (((Int × Int × List (Int × Int)) × Bool × Unit) × Unit) := match c with | some c => some ((c, true, ()), ()) | none => some (((0, 0, []), false, ()), ())
noncomputable def costOf (l : List I4) : Option (Int × Int × List (Int × Int)) := if mayA l = true then some (costR l ((prs l).getD [])) else none
theorem costOf_good {l : List I4} {ps : List Int} (g : GoodA l ps) : costOf l = some (costR l ps) := by
 unfold costOf; rw [if_pos (mayA_iff.2 ⟨ps, g⟩), g.pairs]; rfl
theorem S26_eq {k : Nat} (hk : 1000 ≤ k) {l : List I4} (hl : l.length ≤ 900) : S26 k l = costO l (costOf l) := by
 unfold S26
 rw [S18_eq hk hl, Option.bind_some]
 cases hm : mayA l with
 | false =>
  have : costOf l = none := by unfold costOf; rw [hm]; rfl
  rw [this]; rfl
 | true =>
  obtain ⟨ps, g⟩ := mayA_iff.1 hm
  have hl2 := g.len2
  simp only [Bool.not_true, cond_false]
  rw [S48_eq hk g, Option.bind_some, S19_eq hk g.len2, g.pairs]
  simp only [prOut, Option.bind_some]
  have h1 := S49_sub hk g ((0 : Nat) : Int) ((tms l).length : Int)
  rw [sub_all] at h1
  rw [h1, Option.bind_some, costOf_good g]
  have := L26_7_eq hk g (c := sm (tms l)) l.length 0 k 0 0 [] (by omega) (by omega) (by omega) (by simp)
  have h0 : sm (sub (tms l) ((0 : Nat) : Int) ((0 : Nat) : Int)) = 0 := by simp [sub, sm]
  rw [h0] at this
  exact this
/-! ### the document's -/
theorem L27_16_eq {k : Nat} {g8 : List I4 → Int → Int → Int → Int → List (Int × Int) → List Int → List Int → Int → Int → Option (((Int × Int × List (Int × Int)) × Bool × Unit) × Unit)} {l : List I4} {ps : List Int} (g : GoodA l ps) {y1 y2 c c1 p : Int} {c2 : List (Int × Int)} {i u : Nat} (hu : ps.getD i 0 = (u : Int)) (hiu : i < u) (hul : u < l.length) (hc : c2.length ≤ 900) : ∀ (m n j : Nat) (s : Int), n + m = u + 1 → m < j → i < n → s = sm (sub (tms l) ((i + 1 : Nat) : Int) (n : Int)) →
  L27_16 k g8 j l y1 y2 c c1 c2 (tms l) ps p (i : Int) s (n : Int) = g8 l y1 y2 c c1 (c2 ++ [((l.getD i i0).2.1, Int.tdiv (sm (sub (tms l) ((i + 1 : Nat) : Int) ((u : Int) + 1))) ((tms l).getD i 0))]) (tms l) ps p ((i + 1 : Nat) : Int)
 | 0, n, j, s, h, hj, hin, hs => by
  obtain ⟨j', rfl⟩ : ∃ j', j = j' + 1 := ⟨j - 1, by omega⟩
  have hl2 := g.len2
  have hpl := prs_len g.pairs
  have htl := tms_len l
  have ht := tms_bound g (j := i) (by omega)
  have hsb := sm_sub g ((i + 1 : Nat) : Int) ((u + 1 : Nat) : Int)
  have hd : 0 ≤ Int.tdiv (sm (sub (tms l) ((i + 1 : Nat) : Int) ((u + 1 : Nat) : Int))) ((tms l).getD i 0) ∧ Int.tdiv (sm (sub (tms l) ((i + 1 : Nat) : Int) ((u + 1 : Nat) : Int))) ((tms l).getD i 0) ≤ 9600 := by
   rw [Int.tdiv_eq_ediv_of_nonneg hsb.1]
   exact ⟨Int.ediv_nonneg hsb.1 (by omega), Int.le_trans (Int.ediv_le_self _ hsb.1) hsb.2⟩
  have hnu : n = u + 1 := by omega
  subst hnu
  rw [L27_16_s, l27_16, ix_nat (by omega), rd_nat, hu, bif_f (by omega), ix_nat (by omega), ix_nat (by omega), rd_nat, nz_ok (by omega), hs, ap_ok (by simp only [List.length_cons, List.length_nil]; omega), w64 (by omega) (by omega), w64_nat (by omega), rd_nat]
  rfl
 | m + 1, n, j, s, h, hj, hin, hs => by
  obtain ⟨j', rfl⟩ : ∃ j', j = j' + 1 := ⟨j - 1, by omega⟩
  have hl2 := g.len2
  have hpl := prs_len g.pairs
  have htl := tms_len l
  have ht := tms_bound g (j := n) (by omega)
  have hsb := sm_sub g ((i + 1 : Nat) : Int) (n : Int)
  rw [L27_16_s, l27_16, ix_nat (by omega), rd_nat, hu, bif_t (by omega), ix_nat (by omega), rd_nat, w64_nat (by omega), w64 (by omega) (by omega)]
  refine L27_16_eq g hu hiu hul hc m (n + 1) j' _ (by omega) (by omega) (by omega) ?_
  rw [sub_snoc (by omega) (by omega), sm_app, ← hs, sm, sm]; omega
theorem L27_8_eq {k : Nat} (hk : 1000 ≤ k) {l : List I4} {ps : List Int} (g : GoodA l ps) {y1 y2 : Int} : ∀ (m i j : Nat) (c c1 p : Int) (c2 : List (Int × Int)), i + m = l.length → m < j → c2.length ≤ i → 0 ≤ c → c + sm ((tms l).drop i) ≤ 1000000 → 0 ≤ p → p + sm ((tms l).drop i) ≤ 1000000 →
  L27_8 k j l y1 y2 c c1 c2 (tms l) ps p (i : Int) = some (((c + sm ((tms l).drop i), cg l (tms l) ps m i c1 c2 p), true, ()), ())
 | 0, i, j, c, c1, p, c2, h, hj, hc, _, _, _, _ => by
  obtain ⟨j', rfl⟩ : ∃ j', j = j' + 1 := ⟨j - 1, by omega⟩
  have htl := tms_len l
  rw [L27_8_s, l27_8, bif_f (by omega), cg, drop_nil (by omega), sm, Int.add_zero]
 | m + 1, i, j, c, c1, p, c2, h, hj, hc, b1, b2, b3, b4 => by
  obtain ⟨j', rfl⟩ : ∃ j', j = j' + 1 := ⟨j - 1, by omega⟩
  have hl2 := g.len2
  have htl := tms_len l
  have hpl := prs_len g.pairs
  have hi : i < l.length := by omega
  have ht := tms_bound g hi
  have ih := L27_8_eq hk g (y1 := y1) (y2 := y2) m (i + 1) j'
  have hr := sm_nonneg ((tms l).drop (i + 1)) (fun x hx => by have := tms_mem g x (List.mem_of_mem_drop hx); omega)
  rw [drop_cons 0 (show i < (tms l).length by omega), sm] at b2 b4
  rw [L27_8_s, l27_8, bif_t (by omega), ix_nat (by omega), ix_nat (by omega), ix_nat hi, rd_nat, ix_nat hi, rd_nat, w64 (by omega) (by omega), w64 (by omega) (by omega), cg, drop_cons 0 (show i < (tms l).length by omega), sm, mx_eq]
  unfold j27_13
  rw [ix_nat hi, ix_nat hi, rd_nat, w64_nat (by omega)]
  have fin : ∀ (c1' p' : Int) (c2' : List (Int × Int)), c2'.length ≤ i + 1 → 0 ≤ p' → p' + sm ((tms l).drop (i + 1)) ≤ 1000000 → L27_8 k j' l y1 y2 (c + (tms l).getD i 0) c1' c2' (tms l) ps p' ((i + 1 : Nat) : Int) = some (((c + ((tms l).getD i 0 + sm ((tms l).drop (i + 1))), cg l (tms l) ps m (i + 1) c1' c2' p'), true, ()), ()) := fun c1' p' c2' h1 h2 h3 => by
   rw [ih _ _ _ _ (by omega) (by omega) h1 (by omega) (by omega) h2 h3]
   congr 4; omega
  cases h11 : (l.getD i i0).1 == 11 with
  | true =>
   have e := eq_of_beq h11
   rw [cond_true, if_pos (.inl e), show ((l.getD i i0).1 == 9) = false by rw [e]; rfl, cond_false]
   exact fin _ _ _ (by omega) (by omega) (by omega)
  | false =>
   rw [cond_false]
   have e11 : (l.getD i i0).1 ≠ 11 := by intro e; rw [e] at h11; cases h11
   cases h00 : (l.getD i i0).1 == 0 with
   | true =>
    have e := eq_of_beq h00
    rw [cond_true, if_pos (.inr e), show ((l.getD i i0).1 == 9) = false by rw [e]; rfl, cond_false]
    exact fin _ _ _ (by omega) (by omega) (by omega)
   | false =>
    rw [cond_false]
    have e00 : (l.getD i i0).1 ≠ 0 := by intro e; rw [e] at h00; cases h00
    rw [if_neg (by rintro (h | h); exact e11 h; exact e00 h)]
    cases h9 : (l.getD i i0).1 == 9 with
    | true =>
     have e := eq_of_beq h9
     obtain ⟨u, h1, h2, h3⟩ := lock_in g hi e
     rw [if_pos e, cond_true, h1]
     refine (L27_16_eq g h1 h2 h3 (by omega) (u - i) (i + 1) k 0 (by omega) (by omega) (by omega) (by simp [sub, sm])).trans ?_
     exact fin _ _ _ (by simp only [List.length_append, List.length_cons, List.length_nil]; omega) (by omega) (by omega)
    | false =>
     have e9 : (l.getD i i0).1 ≠ 9 := by intro e; rw [e] at h9; cases h9
     rw [cond_false, if_neg e9]
     exact fin _ _ _ (by omega) (by omega) (by omega)
theorem S27_eq {k : Nat} (hk : 1000 ≤ k) {l : List I4} (hl : l.length ≤ 900) : S27 k l = costO l (costOf l) := by
 unfold S27
 rw [S17_eq hk hl, Option.bind_some, mayB_eq]
 cases hm : mayA l with
 | false =>
  have : costOf l = none := by unfold costOf; rw [hm]; rfl
  rw [this]; rfl
 | true =>
  obtain ⟨ps, g⟩ := mayA_iff.1 hm
  have hl2 := g.len2
  simp only [Bool.not_true, cond_false]
  rw [S50_eq hk g, Option.bind_some, S20_eq hk hl, g.pairs]
  simp only [prOut, Option.bind_some]
  rw [costOf_good g]
  have hs := sm_sub g ((0 : Nat) : Int) ((tms l).length : Int)
  rw [sub_all] at hs
  have := L27_8_eq hk g (y1 := 0) (y2 := 0) l.length 0 k 0 0 0 [] (by omega) (by omega) (by simp) (by omega) (by rw [List.drop_zero]; omega) (by omega) (by rw [List.drop_zero]; omega)
  rw [Int.zero_add, List.drop_zero] at this
  exact this
end Go.Proofs.Ytjnnjciedbgmiaa.Ab

/- How long a tree is. -/
namespace Go.Proofs.Ytjnnjciedbgmiaa.Ab
open Go.RowKit Tr
set_option linter.unusedSimpArgs false
set_option linter.unusedVariables false
def repOf (x : I4) : Int := if x.1 = 8 then x.2.2.2 else 1
theorem repOf_may {x : I4} (h : mayI x = true) : 1 ≤ repOf x ∧ repOf x ≤ 20 := by
 unfold repOf
 split
 ·rename_i e; exact (may8 h e).2.2
 ·omega
namespace Tr
def cost : Tr → Int
 | .nil => 0
 | .one _ r => 1 + cost r
 | .lk _ b r => 2 + cost b + cost r
 | .ar x b r => 1 + repOf x * cost b + cost r
def ts : Int → Tr → List Int
 | _, .nil => []
 | M, .one _ r => M :: ts M r
 | M, .lk _ b r => M :: (ts M b ++ (M :: ts M r))
 | M, .ar x b r => M :: (ts (M * repOf x) b ++ ts M r)
def spans : Tr → List (Int × Int)
 | .nil => []
 | .one _ r => spans r
 | .lk a b r => (a, cost b + 1) :: (spans b ++ spans r)
 | .ar _ b r => spans b ++ spans r
def piece : Int → Tr → Int × Int → Int × Int
 | _, .nil, s => s
 | M, .one x r, s => piece M r (if x.1 = 11 then (max s.1 (s.2 + M), 0) else (s.1, s.2 + M))
 | M, .lk _ b r, s => piece M r ((piece M b (s.1, s.2 + M)).1, (piece M b (s.1, s.2 + M)).2 + M)
 | M, .ar x b r, s => piece M r (piece (M * repOf x) b (s.1, s.2 + M))
end Tr
theorem ts_len : ∀ (t : Tr) (M : Int), (t.ts M).length = t.len
 | .nil, _ => rfl
 | .one _ r, M => by simp only [Tr.ts, Tr.len, List.length_cons, ts_len r]
 | .lk _ b r, M => by simp only [Tr.ts, Tr.len, List.length_cons, List.length_append, ts_len b, ts_len r]; omega
 | .ar _ b r, M => by simp only [Tr.ts, Tr.len, List.length_cons, List.length_append, ts_len b, ts_len r]
theorem ts_sum : ∀ (t : Tr) (M : Int), sm (t.ts M) = M * t.cost
 | .nil, M => by simp [Tr.ts, Tr.cost, sm]
 | .one _ r, M => by simp only [Tr.ts, Tr.cost, sm, ts_sum r M]; grind
 | .lk _ b r, M => by simp only [Tr.ts, Tr.cost, sm, sm_app, ts_sum b M, ts_sum r M]; grind
 | .ar x b r, M => by simp only [Tr.ts, Tr.cost, sm, sm_app, ts_sum b, ts_sum r M]; grind
theorem cost_nonneg : ∀ {t : Tr} {d : Nat} {hs : List Int} {ia : Bool}, Ok d hs ia t → 0 ≤ t.cost
 | .nil, _, _, _, _ => by simp [Tr.cost]
 | .one x r, _, _, _, ⟨_, _, _, h4⟩ => by have := cost_nonneg h4; simp only [Tr.cost]; omega
 | .lk a b r, _, _, _, ⟨_, _, h3, h4⟩ => by have := cost_nonneg h3; have := cost_nonneg h4; simp only [Tr.cost]; omega
 | .ar x b r, _, _, _, ⟨h1, _, h3, h4⟩ => by
  have h5 := cost_nonneg h3; have := cost_nonneg h4
  have := Int.mul_nonneg (show 0 ≤ repOf x by have := repOf_may h1.1; omega) h5
  simp only [Tr.cost]; omega
theorem tmA_tree : ∀ {t : Tr} {d : Nat} {hs : List Int} {ia : Bool} {l : List I4} {o : Nat} (M : Int), Ok d hs ia t → At l o t.flat → o + t.len ≤ 9000 → ∀ j, j < t.len → tmA l ((o + j : Nat) : Int) (pcs o t.flat) M = (t.ts M).getD j 0
 | .nil, _, _, _, _, _, _, _, _, _, j, hj => by simp only [Tr.len] at hj; omega
 | .one x r, _, _, _, l, o, M, ⟨h1, h2, _, h4⟩, ha, ho, j, hj => by
  simp only [Tr.len] at hj ho
  obtain ⟨a1, a2, a3⟩ := At_cons ha
  rw [pcs_one h1 h2 (by omega), Tr.ts]
  cases j with
  | zero =>
   rw [List.getD_cons_zero, tmA_none]
   intro p hp
   have := ar_in h4 (by omega) p hp
   rw [← Bool.not_eq_true, has_iff]; omega
  | succ j =>
   rw [List.getD_cons_succ, ← tmA_tree M h4 a3 (by omega) j (by omega)]
   congr 2; omega
 | .lk a b r, _, _, _, l, o, M, ⟨h1, _, h3, h4⟩, ha, ho, j, hj => by
  simp only [Tr.len] at hj ho
  obtain ⟨a1, a2, a3⟩ := At_cons ha
  obtain ⟨a4, a5⟩ := At_app a3
  obtain ⟨a6, a7, a8⟩ := At_cons a5
  rw [flat_len] at a6 a7 a8
  rw [show o + 1 + b.len + 1 = o + b.len + 2 by omega] at a8
  have nb : ∀ k : Nat, k ≤ o ∨ o + b.len + 1 ≤ k → ∀ M', tmA l (k : Int) (pcs (o + 1) b.flat) M' = M' := fun k hk M' => tmA_none l _ _ _ (fun p hp => by
   have := ar_in h3 (by omega) p hp
   rw [← Bool.not_eq_true, has_iff]; omega)
  have nr : ∀ k : Nat, k ≤ o + b.len + 2 → ∀ M', tmA l (k : Int) (pcs (o + b.len + 2) r.flat) M' = M' := fun k hk M' => tmA_none l _ _ _ (fun p hp => by
   have := ar_in h4 (by omega) p hp
   rw [← Bool.not_eq_true, has_iff]; omega)
  rw [pcs_lk h1 (by omega), tmA_app, Tr.ts]
  cases j with
  | zero => rw [List.getD_cons_zero, nb _ (by omega), nr _ (by omega)]
  | succ j =>
   rw [List.getD_cons_succ]
   by_cases e : j < b.len
   ·rw [getD_app_l (by rw [ts_len]; exact e), nr _ (by omega), ← tmA_tree M h3 a4 (by omega) j e]
    congr 2; omega
   ·rw [getD_app_r (by rw [ts_len]; omega), ts_len, nb _ (by omega)]
    by_cases e2 : j = b.len
    ·subst e2; rw [Nat.sub_self, List.getD_cons_zero, nr _ (by omega)]
    ·obtain ⟨n, hn⟩ : ∃ n, j - b.len = n + 1 := ⟨j - b.len - 1, by omega⟩
     rw [hn, List.getD_cons_succ, ← tmA_tree M h4 a8 (by omega) n (by omega)]
     congr 2; omega
 | .ar x b r, _, _, _, l, o, M, ⟨⟨h1, h2, h3⟩, _, h5, h6⟩, ha, ho, j, hj => by
  simp only [Tr.len] at hj ho
  obtain ⟨a1, a2, a3⟩ := At_cons ha
  obtain ⟨a4, a5⟩ := At_app a3
  rw [flat_len, show o + 1 + b.len = o + b.len + 1 by omega] at a5
  have nb : ∀ k : Nat, k ≤ o ∨ o + b.len + 1 ≤ k → ∀ M', tmA l (k : Int) (pcs (o + 1) b.flat) M' = M' := fun k hk M' => tmA_none l _ _ _ (fun p hp => by
   have := ar_in h5 (by omega) p hp
   rw [← Bool.not_eq_true, has_iff]; omega)
  have nr : ∀ k : Nat, k ≤ o + b.len + 1 → ∀ M', tmA l (k : Int) (pcs (o + b.len + 1) r.flat) M' = M' := fun k hk M' => tmA_none l _ _ _ (fun p hp => by
   have := ar_in h6 (by omega) p hp
   rw [← Bool.not_eq_true, has_iff]; omega)
  have hd : ∀ k : Nat, tmA l (k : Int) [arOf o x] M = if o < k ∧ k ≤ o + b.len then M * repOf x else M := fun k => by
   rw [tmA, tmA]
   have e4 : (arOf o x).2.2.1 = (o : Int) := rfl
   have e5 : (arOf o x).2.2.2 = (x.1 == 8) := rfl
   rw [e4, rd_nat, a2, e5]
   unfold repOf
   by_cases h8 : x.1 = 8
   ·rw [if_pos h8, show (x.1 == 8) = true by rw [h8]; rfl, Bool.true_and]
    by_cases e : o < k ∧ k ≤ o + b.len
    ·rw [if_pos e, show hasA (arOf o x) (k : Int) = true by rw [has_iff]; simp only [arOf]; omega]; rfl
    ·rw [if_neg e, show hasA (arOf o x) (k : Int) = false by rw [← Bool.not_eq_true, has_iff]; simp only [arOf]; omega]; rfl
   ·rw [if_neg h8, show (x.1 == 8) = false by simpa using h8, Bool.false_and, Int.mul_one]; simp
  rw [pcs_ar h1 h2 (by omega), show ∀ a : Ar, ∀ l, a :: l = [a] ++ l from fun _ _ => rfl, tmA_app, tmA_app, hd, Tr.ts]
  cases j with
  | zero => rw [List.getD_cons_zero, if_neg (by omega), nb _ (by omega), nr _ (by omega)]
  | succ j =>
   rw [List.getD_cons_succ]
   by_cases e : j < b.len
   ·rw [getD_app_l (by rw [ts_len]; exact e), if_pos (by omega), nr _ (by omega), ← tmA_tree _ h5 a4 (by omega) j e]
    congr 2; omega
   ·rw [getD_app_r (by rw [ts_len]; omega), ts_len, if_neg (by omega), nb _ (by omega), ← tmA_tree M h6 a5 (by omega) (j - b.len) (by omega)]
    congr 2; omega
theorem tms_tree {t : Tr} (h : Ok 0 [] false t) (hl : t.len < 24) : tms t.prog = t.ts 1 ++ [1] := by
 have hpl := prog_len t
 apply List.ext_getElem (by rw [tms_len, List.length_append, ts_len]; simp; omega)
 intro n h1 h2
 rw [tms_len] at h1
 rw [← getD_in (z := 0) (by rw [tms_len]; exact h1), ← getD_in (z := 0) h2, tms_get h1, prog_pcs (by omega)]
 by_cases e : n < t.len
 ·rw [getD_app_l (by rw [ts_len]; exact e), ← tmA_tree (o := 0) 1 h (prog_at t) (by omega) n e, Nat.zero_add]
 ·have : n = t.len := by omega
  subst this
  rw [getD_app_r (by rw [ts_len]; omega), ts_len, Nat.sub_self]
  exact tmA_none _ _ _ _ (fun p hp => by
   have := ar_in (o := 0) h (by omega) p hp
   rw [← Bool.not_eq_true, has_iff]; omega)
def psOk (ps : List Int) : Tr → Nat → Prop
 | .nil, _ => True
 | .one _ r, o => psOk ps r (o + 1)
 | .lk _ b r, o => ps.getD o 0 = ((o + b.len + 1 : Nat) : Int) ∧ psOk ps b (o + 1) ∧ psOk ps r (o + b.len + 2)
 | .ar _ b r, o => psOk ps b (o + 1) ∧ psOk ps r (o + b.len + 1)
theorem psOk_congr {ps qs : List Int} : ∀ (t : Tr) (o : Nat), (∀ k, o ≤ k → k < o + t.len → ps.getD k 0 = qs.getD k 0) → psOk ps t o → psOk qs t o
 | .nil, _, _, _ => trivial
 | .one _ r, o, h, hp => psOk_congr r (o + 1) (fun k h1 h2 => h k (by omega) (by simp only [Tr.len]; omega)) hp
 | .lk _ b r, o, h, ⟨h1, h2, h3⟩ => ⟨by rw [← h o (by omega) (by simp only [Tr.len]; omega)]; exact h1, psOk_congr b (o + 1) (fun k g1 g2 => h k (by omega) (by simp only [Tr.len]; omega)) h2, psOk_congr r (o + b.len + 2) (fun k g1 g2 => h k (by omega) (by simp only [Tr.len]; omega)) h3⟩
 | .ar _ b r, o, h, ⟨h2, h3⟩ => ⟨psOk_congr b (o + 1) (fun k g1 g2 => h k (by omega) (by simp only [Tr.len]; omega)) h2, psOk_congr r (o + b.len + 1) (fun k g1 g2 => h k (by omega) (by simp only [Tr.len]; omega)) h3⟩
theorem psOk_prT : ∀ (t : Tr) (o : Nat) (out : List Int), o + t.len ≤ out.length → psOk (prT t o out) t o
 | .nil, _, _, _ => trivial
 | .one _ r, o, out, h => psOk_prT r (o + 1) out (by simp only [Tr.len] at h; omega)
 | .lk a b r, o, out, h => by
  simp only [Tr.len] at h
  rw [prT]
  have hb := prT_len b (o + 1) out
  refine ⟨?_, ?_, psOk_prT r _ _ (by rw [List.length_set]; omega)⟩
  ·rw [prT_out r _ _ o (by omega), set_get, if_pos ⟨rfl, by omega⟩]
  ·refine psOk_congr b (o + 1) (fun k h1 h2 => ?_) (psOk_prT b (o + 1) out (by omega))
   rw [prT_out r _ _ k (by omega), set_get, if_neg (by omega)]
 | .ar x b r, o, out, h => by
  simp only [Tr.len] at h
  rw [prT]
  have hb := prT_len b (o + 1) out
  refine ⟨?_, psOk_prT r _ _ (by omega)⟩
  refine psOk_congr b (o + 1) (fun k h1 h2 => ?_) (psOk_prT b (o + 1) out (by omega))
  rw [prT_out r _ _ k (by omega)]
def AtI (l : List Int) (o : Nat) (w : List Int) : Prop := o + w.length ≤ l.length ∧ ∀ j, j < w.length → l.getD (o + j) 0 = w.getD j 0
theorem AtI_cons {l : List Int} {o : Nat} {x : Int} {w : List Int} (h : AtI l o (x :: w)) : o < l.length ∧ l.getD o 0 = x ∧ AtI l (o + 1) w := by
 obtain ⟨h1, h2⟩ := h
 simp only [List.length_cons] at h1 h2
 refine ⟨by omega, by simpa using h2 0 (by omega), by omega, fun j hj => ?_⟩
 have := h2 (j + 1) (by omega)
 rw [List.getD_cons_succ] at this
 rw [← this]; congr 1; omega
theorem AtI_app {l : List Int} {o : Nat} {u w : List Int} (h : AtI l o (u ++ w)) : AtI l o u ∧ AtI l (o + u.length) w := by
 obtain ⟨h1, h2⟩ := h
 simp only [List.length_append] at h1 h2
 refine ⟨⟨by omega, fun j hj => ?_⟩, by omega, fun j hj => ?_⟩
 ·rw [h2 j (by omega), getD_app_l hj]
 ·rw [show o + u.length + j = o + (u.length + j) by omega, h2 _ (by omega), getD_app_r (by omega)]
  congr 1; omega
theorem AtI_sub {l w : List Int} {o : Nat} (h : AtI l o w) : sub l (o : Int) ((o + w.length : Nat) : Int) = w := by
 obtain ⟨h1, h2⟩ := h
 simp only [sub, Int.toNat_natCast]
 apply List.ext_getElem (by rw [List.length_drop, List.length_take]; omega)
 intro n g1 g2
 rw [List.getElem_drop, List.getElem_take]
 have := h2 n g2
 rw [getD_in (by omega), getD_in g2] at this
 exact this
theorem cg_tree : ∀ {t : Tr} {d : Nat} {hs : List Int} {ia : Bool} {l : List I4} {ts ps : List Int} {o : Nat} {M : Int} (m : Nat) (c1 p : Int) (c2 : List (Int × Int)), Ok d hs ia t → At l o t.flat → AtI ts o (t.ts M) → psOk ps t o → 1 ≤ M →
  cg l ts ps (t.len + m) o c1 c2 p = cg l ts ps m (o + t.len) (t.piece M (c1, p)).1 (c2 ++ t.spans) (t.piece M (c1, p)).2
 | .nil, _, _, _, _, _, _, _, _, m, c1, p, c2, _, _, _, _, _ => by simp only [Tr.len, Nat.zero_add, Nat.add_zero, Tr.piece, Tr.spans, List.append_nil]
 | .one x r, _, _, _, l, ts, ps, o, M, m, c1, p, c2, ⟨h1, h2, _, h4⟩, ha, ht, hp, hM => by
  simp only [Tr.len, Tr.ts] at ht ⊢
  obtain ⟨a1, a2, a3⟩ := At_cons ha
  obtain ⟨t1, t2, t3⟩ := AtI_cons ht
  rw [show r.len + 1 + m = (r.len + m) + 1 by omega, cg, a2, t2, Tr.spans, Tr.piece]
  by_cases e : x.1 = 11
  ·rw [if_pos (.inl e), if_pos e, cg_tree m _ _ _ h4 a3 t3 hp hM]
   congr 1; omega
  ·rw [if_neg (by rintro (q | q); exact e q; exact h2.1 q), if_neg h2.2.2.2.1, if_neg e, cg_tree m _ _ _ h4 a3 t3 hp hM]
   congr 1; omega
 | .lk a b r, _, _, _, l, ts, ps, o, M, m, c1, p, c2, ⟨h1, _, h3, h4⟩, ha, ht, ⟨p1, p2, p3⟩, hM => by
  simp only [Tr.len, Tr.ts] at ht ⊢
  obtain ⟨a1, a2, a3⟩ := At_cons ha
  obtain ⟨a4, a5⟩ := At_app a3
  obtain ⟨a6, a7, a8⟩ := At_cons a5
  obtain ⟨t1, t2, t3⟩ := AtI_cons ht
  obtain ⟨t4, t5⟩ := AtI_app t3
  obtain ⟨t6, t7, t8⟩ := AtI_cons t5
  rw [flat_len] at a6 a7 a8
  rw [ts_len] at t6 t7 t8
  have hsub : sub ts ((o + 1 : Nat) : Int) (ps.getD o 0 + 1) = b.ts M ++ [M] := by
   have : AtI ts (o + 1) (b.ts M ++ [M]) := by
    obtain ⟨q1, q2⟩ := t3
    refine ⟨by simp only [List.length_append, List.length_cons, List.length_nil] at q1 ⊢; omega, fun j hj => ?_⟩
    simp only [List.length_append, List.length_cons, List.length_nil] at hj
    rw [q2 j (by simp only [List.length_append, List.length_cons]; omega)]
    by_cases e : j < (b.ts M).length
    ·rw [getD_app_l e, getD_app_l e]
    ·rw [getD_app_r (by omega), getD_app_r (by omega), show j - (b.ts M).length = 0 by omega]; rfl
   have h := AtI_sub this
   rw [List.length_append, ts_len] at h
   rw [p1, ← h]
   congr 1
   simp only [List.length_cons, List.length_nil]; omega
  have hc := cost_nonneg h3
  have hdiv : Int.tdiv (M * b.cost + M) M = b.cost + 1 := by
   rw [show M * b.cost + M = M * (b.cost + 1) by grind, Int.mul_tdiv_cancel_left _ (by omega)]
  rw [show b.len + r.len + 2 + m = (b.len + (r.len + m + 1)) + 1 by omega, cg, a2, t2, if_neg (by simp), if_pos rfl, hsub, sm_app, ts_sum, sm, sm, Int.add_zero, hdiv]
  rw [cg_tree (r.len + m + 1) _ _ _ h3 a4 t4 p2 hM, cg, a7, t7, if_neg (by simp), if_neg (by simp)]
  rw [show o + 1 + b.len + 1 = o + b.len + 2 by omega] at a8 t8 ⊢
  rw [cg_tree m _ _ _ h4 a8 t8 p3 hM, Tr.spans, Tr.piece]
  congr 1
  ·omega
  ·simp only [List.append_assoc, List.cons_append, List.nil_append]
 | .ar x b r, _, _, _, l, ts, ps, o, M, m, c1, p, c2, ⟨⟨h1, h2, h3⟩, _, h5, h6⟩, ha, ht, ⟨p2, p3⟩, hM => by
  simp only [Tr.len, Tr.ts] at ht ⊢
  obtain ⟨a1, a2, a3⟩ := At_cons ha
  obtain ⟨a4, a5⟩ := At_app a3
  obtain ⟨t1, t2, t3⟩ := AtI_cons ht
  obtain ⟨t4, t5⟩ := AtI_app t3
  rw [flat_len, show o + 1 + b.len = o + b.len + 1 by omega] at a5
  rw [ts_len, show o + 1 + b.len = o + b.len + 1 by omega] at t5
  have e11 : ¬ (x.1 = 11 ∨ x.1 = 0) := by rintro (e | e) <;> simp [isA, e] at h2
  have e9 : x.1 ≠ 9 := by intro e; simp [isA, e] at h2
  have hM2 : 1 * 1 ≤ M * repOf x := Int.mul_le_mul hM (repOf_may h1).1 (by omega) (by omega)
  rw [show b.len + r.len + 1 + m = (b.len + (r.len + m)) + 1 by omega, cg, a2, t2, if_neg e11, if_neg e9, cg_tree (r.len + m) _ _ _ h5 a4 t4 p2 (by omega)]
  rw [show o + 1 + b.len = o + b.len + 1 by omega, cg_tree m _ _ _ h6 a5 t5 p3 hM, Tr.spans, Tr.piece]
  congr 1
  ·omega
  ·rw [List.append_assoc]
theorem cost_tree {t : Tr} (h : Ok 0 [] false t) (hl : t.len < 24) : costOf t.prog = some (t.cost + 1, max (t.piece 1 (0, 0)).1 ((t.piece 1 (0, 0)).2 + 1), t.spans) := by
 have g := good_tree h hl
 have ht := tms_tree h hl
 rw [costOf_good g]
 unfold costR
 have hA : AtI (tms t.prog) 0 (t.ts 1) := by
  rw [ht]
  exact ⟨by rw [List.length_append]; omega, fun j hj => by rw [Nat.zero_add, getD_app_l hj]⟩
 have h1 := cg_tree (ts := tms t.prog) (ps := prT t 0 (List.replicate (t.len + 1) 0)) (o := 0) (M := 1) 1 0 0 [] h (prog_at t) hA (psOk_prT t 0 _ (by simp)) (by omega)
 rw [prog_len, h1, Nat.zero_add, cg, prog_end, if_pos (.inr rfl), cg, List.nil_append]
 have h2 : sm (tms t.prog) = t.cost + 1 := by rw [ht, sm_app, ts_sum, sm, sm]; omega
 have h3 : (tms t.prog).getD t.len 0 = 1 := by
  rw [ht, getD_app_r (by rw [ts_len]; omega), ts_len, Nat.sub_self]; rfl
 rw [h2, h3]
theorem piece_none : ∀ {t : Tr} {d : Nat} {hs : List Int} {ia : Bool} (M : Int) (s : Int × Int), Ok d hs ia t → (ia = true ∨ hs ≠ []) → t.piece M s = (s.1, s.2 + M * t.cost)
 | .nil, _, _, _, M, s, _, _ => by simp [Tr.piece, Tr.cost]
 | .one x r, _, _, _, M, s, ⟨_, _, h3, h4⟩, hq => by
  have e : x.1 ≠ 11 := fun e => by obtain ⟨q1, q2⟩ := h3 e; rcases hq with q | q; rw [q1] at q; cases q; exact q q2
  rw [Tr.piece, if_neg e, piece_none M _ h4 hq, Tr.cost]
  simp only [Prod.mk.injEq, true_and]; grind
 | .lk a b r, _, _, _, M, s, ⟨_, _, h3, h4⟩, hq => by
  rw [Tr.piece, piece_none M _ h3 (.inr (by simp)), piece_none M _ h4 hq, Tr.cost]
  simp only [Prod.mk.injEq, true_and]; grind
 | .ar x b r, _, _, _, M, s, ⟨_, _, h3, h4⟩, hq => by
  rw [Tr.piece, piece_none _ _ h3 (.inl rfl), piece_none M _ h4 hq, Tr.cost]
  simp only [Prod.mk.injEq, true_and]; grind
end Go.Proofs.Ytjnnjciedbgmiaa.Ab

/- The pieces of a tree: how they change. -/
namespace Go.Proofs.Ytjnnjciedbgmiaa.Ab
open Go.RowKit Tr
set_option linter.unusedSimpArgs false
set_option linter.unusedVariables false
theorem piece_lip : ∀ {t : Tr} (M : Int) (s u : Int × Int), s.1 ≤ u.1 → u.1 ≤ s.1 + 1 → s.2 ≤ u.2 → u.2 ≤ s.2 + 1 → (t.piece M s).1 ≤ (t.piece M u).1 ∧ (t.piece M u).1 ≤ (t.piece M s).1 + 1 ∧ (t.piece M s).2 ≤ (t.piece M u).2 ∧ (t.piece M u).2 ≤ (t.piece M s).2 + 1
 | .nil, M, s, u, h1, h2, h3, h4 => ⟨h1, h2, h3, h4⟩
 | .one x r, M, s, u, h1, h2, h3, h4 => by
  rw [Tr.piece, Tr.piece]
  split
  ·exact piece_lip M _ _ (by simp only; omega) (by simp only; omega) (by simp only; omega) (by simp only; omega)
  ·exact piece_lip M _ _ h1 h2 (by simp only; omega) (by simp only; omega)
 | .lk a b r, M, s, u, h1, h2, h3, h4 => by
  rw [Tr.piece, Tr.piece]
  obtain ⟨q1, q2, q3, q4⟩ := piece_lip (t := b) M (s.1, s.2 + M) (u.1, u.2 + M) h1 h2 (by simp only; omega) (by simp only; omega)
  exact piece_lip M _ _ q1 q2 (by simp only; omega) (by simp only; omega)
 | .ar x b r, M, s, u, h1, h2, h3, h4 => by
  rw [Tr.piece, Tr.piece]
  obtain ⟨q1, q2, q3, q4⟩ := piece_lip (t := b) (M * repOf x) (s.1, s.2 + M) (u.1, u.2 + M) h1 h2 (by simp only; omega) (by simp only; omega)
  exact piece_lip M _ _ q1 q2 q3 q4
theorem piece_max : ∀ {t : Tr} (M c d p : Int), (t.piece M (max c d, p)).1 = max c (t.piece M (d, p)).1 ∧ (t.piece M (max c d, p)).2 = (t.piece M (d, p)).2
 | .nil, M, c, d, p => ⟨rfl, rfl⟩
 | .one x r, M, c, d, p => by
  rw [Tr.piece, Tr.piece]
  split
  ·simp only
   rw [Int.max_assoc]; exact piece_max M c _ _
  ·exact piece_max M c d _
 | .lk a b r, M, c, d, p => by
  rw [Tr.piece, Tr.piece]
  obtain ⟨q1, q2⟩ := piece_max (t := b) M c d (p + M)
  simp only [q1, q2]
  exact piece_max M c _ _
 | .ar x b r, M, c, d, p => by
  rw [Tr.piece, Tr.piece]
  obtain ⟨q1, q2⟩ := piece_max (t := b) (M * repOf x) c d (p + M)
  simp only
  rw [show b.piece (M * repOf x) (max c d, p + M) = (max c (b.piece (M * repOf x) (d, p + M)).1, (b.piece (M * repOf x) (d, p + M)).2) from Prod.ext q1 q2]
  exact piece_max M c _ _
theorem piece_bound : ∀ {t : Tr} {d : Nat} {hs : List Int} {ia : Bool} (M : Int) (s : Int × Int), Ok d hs ia t → 1 ≤ M → 0 ≤ s.1 → 0 ≤ s.2 → 0 ≤ (t.piece M s).1 ∧ 0 ≤ (t.piece M s).2 ∧ (t.piece M s).1 ≤ max s.1 (s.2 + M * t.cost) ∧ (t.piece M s).2 ≤ s.2 + M * t.cost
 | .nil, _, _, _, M, s, _, _, h1, h2 => by simp only [Tr.piece, Tr.cost, Int.mul_zero]; omega
 | .one x r, _, _, _, M, s, ⟨_, _, _, h4⟩, hM, h1, h2 => by
  have hc := Int.mul_nonneg (show 0 ≤ M by omega) (cost_nonneg h4)
  rw [Tr.piece, Tr.cost, Int.mul_add, Int.mul_one]
  split
  ·have := piece_bound (t := r) M (max s.1 (s.2 + M), 0) h4 hM (by simp only; omega) (by simp only; omega)
   simp only at this
   omega
  ·have := piece_bound (t := r) M (s.1, s.2 + M) h4 hM h1 (by simp only; omega)
   simp only at this
   omega
 | .lk a b r, _, _, _, M, s, ⟨_, _, h3, h4⟩, hM, h1, h2 => by
  have hc := Int.mul_nonneg (show 0 ≤ M by omega) (cost_nonneg h4)
  have hcb := Int.mul_nonneg (show 0 ≤ M by omega) (cost_nonneg h3)
  rw [Tr.piece, Tr.cost, show M * (2 + b.cost + r.cost) = M + M + M * b.cost + M * r.cost by grind]
  have q := piece_bound (t := b) M (s.1, s.2 + M) h3 hM h1 (by simp only; omega)
  simp only at q
  have := piece_bound (t := r) M ((b.piece M (s.1, s.2 + M)).1, (b.piece M (s.1, s.2 + M)).2 + M) h4 hM q.1 (by simp only; omega)
  simp only at this
  omega
 | .ar x b r, _, _, _, M, s, ⟨hx, _, h3, h4⟩, hM, h1, h2 => by
  have hr := repOf_may hx.1
  have hM2 : 1 * 1 ≤ M * repOf x := Int.mul_le_mul hM hr.1 (by omega) (by omega)
  have hc := Int.mul_nonneg (show 0 ≤ M by omega) (cost_nonneg h4)
  have hcb := Int.mul_nonneg (show 0 ≤ M * repOf x by omega) (cost_nonneg h3)
  rw [Tr.piece, Tr.cost, show M * (1 + repOf x * b.cost + r.cost) = M + M * repOf x * b.cost + M * r.cost by grind]
  have q := piece_bound (t := b) (M * repOf x) (s.1, s.2 + M) h3 (by omega) h1 (by simp only; omega)
  simp only at q
  have := piece_bound (t := r) M (b.piece (M * repOf x) (s.1, s.2 + M)) h4 hM q.1 q.2.1
  omega
theorem cost_small {t : Tr} (h : Ok 0 [] false t) (hl : t.len < 24) : 0 ≤ t.cost ∧ t.cost + 1 ≤ 9600 := by
 have g := good_tree h hl
 have hs := sm_sub g ((0 : Nat) : Int) ((tms t.prog).length : Int)
 rw [sub_all, tms_tree h hl, sm_app, ts_sum, sm, sm] at hs
 have := cost_nonneg h
 omega
end Go.Proofs.Ytjnnjciedbgmiaa.Ab

/- How long programs are: the law of both answers. -/
namespace Go.Proofs.Ytjnnjciedbgmiaa.Ab
open Go.RowKit Tr
set_option linter.unusedSimpArgs false
set_option linter.unusedVariables false
theorem S25_eq {k : Nat} (hk : 1000 ≤ k) : S25 k = some ((true, ()), ()) := by
 unfold S25
 rw [S26_eq hk (by decide), S26_eq hk (by decide)]
 kernel_rfl
theorem L8_14_eq {k : Nat} {g7 : List (List I4) → Int → Option ((Bool × Unit) × Unit)} {both : List (List I4)} {i : Nat} {a b c d : Int} {x : List (Int × Int)} (hi : i ≤ 9) (hx : x.length ≤ 900) (j : Nat) (hj : x.length < j) :
  L8_14 k g7 j both (i : Int) a b x c d x 0 = g7 both ((i + 1 : Nat) : Int) := by
 have := any_all (L := fun j n => L8_14 k g7 j both (i : Int) a b x c d x n) x (0, 0) (fun _ => false) none (g7 both ((i + 1 : Nat) : Int)) (fun j n hn => by
  show L8_14 k g7 (j + 1) both (i : Int) a b x c d x (n : Int) = _
  rw [L8_14_s, l8_14, bif_t (by omega), ix_nat hn, ix_nat hn, w64_nat (by omega)]
  have : beqD (.pair (.int .i64) (.int .i64)) (rd x (n : Int) (0, 0)) (rd x (n : Int) (0, 0)) = true := by simp [beqD]
  rw [this]; rfl) (fun j => by
  show L8_14 k g7 (j + 1) both (i : Int) a b x c d x (x.length : Int) = _
  rw [L8_14_s, l8_14, bif_f (by omega), w64_nat (by omega)]) j hj
 rw [this]
 have : x.any (fun _ => false) = false := by simp
 rw [this]; rfl
theorem cg_len {l : List I4} {ts ps : List Int} : ∀ (m i : Nat) (c1 p : Int) (c2 : List (Int × Int)), (cg l ts ps m i c1 c2 p).2.length ≤ c2.length + m
 | 0, _, _, _, c2 => by simp [cg]
 | m + 1, i, c1, p, c2 => by
  rw [cg]
  split
  ·have := cg_len (l := l) (ts := ts) (ps := ps) m (i + 1) (max c1 (p + ts.getD i 0)) 0 c2; omega
  ·split
   ·have := cg_len (l := l) (ts := ts) (ps := ps) m (i + 1) c1 (p + ts.getD i 0) (c2 ++ [((l.getD i i0).2.1, Int.tdiv (sm (sub ts ((i + 1 : Nat) : Int) (ps.getD i 0 + 1))) (ts.getD i 0))])
    simp only [List.length_append, List.length_cons, List.length_nil] at this; omega
   ·have := cg_len (l := l) (ts := ts) (ps := ps) m (i + 1) c1 (p + ts.getD i 0) c2; omega
theorem costOf_len {l : List I4} {c : Int × Int × List (Int × Int)} (h : costOf l = some c) : c.2.2.length ≤ 24 := by
 unfold costOf at h
 split at h
 ·rename_i hm
  injection h with h; subst h
  obtain ⟨ps, g⟩ := mayA_iff.1 hm
  have h1 := g.len2
  have h2 := cg_len (l := l) (ts := tms l) (ps := (prs l).getD []) l.length 0 0 0 []
  simp only [costR]
  simp only [List.length_nil] at h2
  omega
 ·cases h
theorem L8_7_eq {k : Nat} (hk : 1000 ≤ k) {l m w : List I4} (hl : l.length ≤ 900) (hm : m.length ≤ 900) (hw : w.length ≤ 900) : ∀ (d i j : Nat), i + d = 3 → d < j → L8_7 k j [l, m, w] (i : Int) = some ((true, ()), ())
 | 0, i, j, h, hj => by
  obtain ⟨j', rfl⟩ : ∃ j', j = j' + 1 := ⟨j - 1, by omega⟩
  rw [L8_7_s, l8_7, bif_f (by omega)]
 | d + 1, i, j, h, hj => by
  obtain ⟨j', rfl⟩ : ∃ j', j = j' + 1 := ⟨j - 1, by omega⟩
  have hlen : ([l, m, w] : List (List I4)).length = 3 := rfl
  have hx : ∀ x ∈ [l, m, w], x.length ≤ 900 := by simp [hl, hm, hw]
  have hx := hx _ (getD_mem (z := []) (l := [l, m, w]) (i := i) (by omega))
  rw [L8_7_s, l8_7, bif_t (by omega), ix_nat (by omega), rd_nat]
  generalize [l, m, w].getD i [] = x at hx ⊢
  have ih := L8_7_eq hk hl hm hw d (i + 1) j' (by omega) (by omega)
  rw [S26_eq hk hx]
  cases hc : costOf x with
  | none =>
   simp only [costO, Option.bind_some]
   rw [ix_nat (by omega), S27_eq hk hx, hc]
   exact (L8_14_eq (by omega) (by simp) k (by simp; omega)).trans ih
  | some c =>
   have hcl := costOf_len hc
   simp only [costO, Option.bind_some]
   rw [ix_nat (by omega), S27_eq hk hx, hc]
   simp only [costO, Option.bind_some, beq_self_eq_true, Bool.not_true, cond_false, bne_self_eq_false]
   exact (L8_14_eq (by omega) (by omega) k (by omega)).trans ih
theorem costAll_pure {l : List I4} {p : List Int} {e : TypeId} (hp : Ty.fine (.sl e (.int .u8)) p) {k : Nat} (hk : 1000 ≤ k) : S8 k l p = some ((true, ()), ()) := by
 unfold S8
 rw [S25_eq hk]
 simp only [Option.bind_some, Bool.not_true, cond_false]
 by_cases h0 : (l.length : Int) > 30
 ·rw [bif_t h0]
 ·rw [bif_f h0]
  by_cases h : (p.length : Int) > 80
  ·rw [bif_t h]
  ·rw [bif_f h]
   unfold S14
   rw [Option.bind_some]
   simp only
   obtain ⟨t, n', e1, h1, h2, h3⟩ := S15_eq hk (locks := 3) (by omega) (picks_ok hp (by omega))
   obtain ⟨w, n2, e2, h4, h5⟩ := S16_eq hk (picks_ok hp (by omega))
   rw [e1, Option.bind_some, Option.bind_some]
   simp only
   rw [e2, Option.bind_some]
   exact L8_7_eq hk (l := l) (m := t.prog) (w := w) (by omega) (by rw [prog_len]; omega) (by omega) 3 0 k (by omega) (by omega)
theorem costAll_law {e e2 : TypeId} (l : List I4) (p : List Int) (_ : Ty.fine (.sl e2 (.pair (.int .i64) (.pair (.int .i64) (.pair (.int .i64) (.int .i64))))) l) (hp : Ty.fine (.sl e (.int .u8)) p) : ∃ k, S8 k l p = some ((true, ()), ()) := ⟨1000, costAll_pure hp (by omega)⟩
end Go.Proofs.Ytjnnjciedbgmiaa.Ab

/- One more instruction ahead: the law. -/
namespace Go.Proofs.Ytjnnjciedbgmiaa.Ab
open Go.RowKit Tr
set_option linter.unusedSimpArgs false
set_option linter.unusedVariables false
theorem costMore_pure {p : List Int} {e : TypeId} (hp : Ty.fine (.sl e (.int .u8)) p) {k : Nat} (hk : 1000 ≤ k) : S12 k p = some ((true, ()), ()) := by
 unfold S12
 rw [S25_eq hk]
 simp only [Option.bind_some, Bool.not_true, cond_false]
 by_cases h : (p.length : Int) > 80
 ·rw [bif_t h]
 ·rw [bif_f h]
  unfold S14
  rw [Option.bind_some]
  simp only
  obtain ⟨t, n', e1, h1, h2, h3⟩ := S15_eq hk (locks := 3) (by omega) (picks_ok hp (by omega))
  have hl := prog_len t
  rw [e1, Option.bind_some]
  simp only
  rw [S26_eq hk (by omega), cost_tree h2.ok (by omega)]
  simp only [costO, Option.bind_some]
  rw [bif_f (by omega), ap_ok (by simp only [List.length_cons, List.length_nil]; omega)]
  have ok1 : Ok 0 [] false (.one (1, 0, 0, 0) t) := ⟨rfl, by simp [plain], fun e => absurd e (by decide), h2.ok⟩
  have ok2 : Ok 0 [] false (.one (11, 0, 0, 0) t) := ⟨rfl, by simp [plain], fun _ => ⟨rfl, rfl⟩, h2.ok⟩
  have hr1 : [((1, 0, 0, 0) : I4)] ++ t.prog = Tr.prog (.one (1, 0, 0, 0) t) := rfl
  have hr2 : [((11, 0, 0, 0) : I4)] ++ t.prog = Tr.prog (.one (11, 0, 0, 0) t) := rfl
  have hl1 : (Tr.one (1, 0, 0, 0) t).len = t.len + 1 := rfl
  have hl2 : (Tr.one (11, 0, 0, 0) t).len = t.len + 1 := rfl
  rw [hr1, S26_eq hk (by rw [prog_len]; omega), cost_tree ok1 (by omega)]
  simp only [costO, Option.bind_some]
  rw [ap_ok (by simp only [List.length_cons, List.length_nil]; omega), hr2, S26_eq hk (by rw [prog_len]; omega), cost_tree ok2 (by omega)]
  simp only [costO, Option.bind_some, cond_true]
  have hc := cost_small h2.ok (by omega)
  have e1 : (Tr.one (1, 0, 0, 0) t).cost = 1 + t.cost := rfl
  have e2 : (Tr.one (11, 0, 0, 0) t).cost = 1 + t.cost := rfl
  have e3 : (Tr.one (1, 0, 0, 0) t).piece 1 (0, 0) = t.piece 1 (0, 1) := by rw [Tr.piece, if_neg (by decide)]; rfl
  have e4 : (Tr.one (11, 0, 0, 0) t).piece 1 (0, 0) = t.piece 1 (max 1 0, 0) := by rw [Tr.piece, if_pos rfl]; rfl
  have e5 : (Tr.one (1, 0, 0, 0) t).spans = t.spans := rfl
  have e6 : (Tr.one (11, 0, 0, 0) t).spans = t.spans := rfl
  obtain ⟨q1, q2, q3, q4⟩ := piece_lip (t := t) 1 (0, 0) (0, 1) (by simp) (by simp) (by simp) (by simp)
  obtain ⟨m1, m2⟩ := piece_max (t := t) 1 1 0 0
  obtain ⟨b1, b2, b3, b4⟩ := piece_bound 1 (0, 0) h2.ok (by omega) (by simp) (by simp)
  simp only [Int.one_mul, Int.zero_add] at b3 b4
  rw [e1, e2, e3, e4, e5, e6, m1, m2, w64 (by omega) (by omega), show 1 + t.cost + 1 = t.cost + 1 + 1 by omega, w64 (by omega) (by omega)]
  simp only [beq_self_eq_true, cond_true]
  rw [bif_t (by omega), bif_t (by omega)]
  have : (max (max 1 (t.piece 1 (0, 0)).1) ((t.piece 1 (0, 0)).2 + 1) == max (t.piece 1 (0, 0)).1 ((t.piece 1 (0, 0)).2 + 1)) = true := by
   rw [beq_iff_eq]; omega
  rw [this]; rfl
theorem costMore_law {e : TypeId} (p : List Int) (hp : Ty.fine (.sl e (.int .u8)) p) : ∃ k, S12 k p = some ((true, ()), ()) := ⟨1000, costMore_pure hp (by omega)⟩
end Go.Proofs.Ytjnnjciedbgmiaa.Ab
