import Derived.Test.YtnlfdfjkgaanjaaAbLib
/- Small laws of the words in which plain functions are told. -/
set_option linter.unusedVariables false
set_option linter.unusedSimpArgs false
namespace Go.Proofs.Ytnlfdfjkgaanjaa.Ab
open Go.RowKit

section
variable {R α : Type}
theorem w64 {n : Int} (h1 : -9223372036854775808 ≤ n) (h2 : n ≤ 9223372036854775807) : IntKind.i64.wrap n = n := by
  unfold IntKind.wrap
  have e1 : (2 ^ IntKind.i64.bits : Int) = 18446744073709551616 := by decide
  have e2 : (2 ^ (IntKind.i64.bits - 1) : Int) = 9223372036854775808 := by decide
  simp only [e1, e2, IntKind.signed, Bool.true_and, decide_eq_true_eq]
  split <;> omega
theorem w64_nat {n : Nat} (h : n < 9223372036854775807) : IntKind.i64.wrap ((n : Int) + 1) = ((n + 1 : Nat) : Int) := by
  rw [w64 (by omega) (by omega)]; omega
theorem ix_ok {xs : List α} {j : Int} {x : Option R} (h0 : 0 ≤ j) (h1 : j < (xs.length : Int)) : ix xs j x = x := by
  unfold ix; rw [if_pos]; simp [h0, h1]
theorem ix_nat {xs : List α} {n : Nat} {x : Option R} (h : n < xs.length) : ix xs (n : Int) x = x := ix_ok (by omega) (by omega)
theorem ax_ok {n : Nat} {j : Int} {x : Option R} (h0 : 0 ≤ j) (h1 : j < (n : Int)) : ax n j x = x := by
  unfold ax; rw [if_pos]; simp [h0, h1]
theorem sx_ok {xs : List α} {l h : Int} {x : Option R} (h0 : 0 ≤ l) (h1 : l ≤ h) (h2 : h ≤ (xs.length : Int)) : sx xs l h x = x := by
  unfold sx; rw [if_pos]; simp [h0, h1, h2]
theorem mk_ok {n : Int} {z : Nat} {x : Option R} (h0 : 0 ≤ n) (h1 : n.toNat * z ≤ 281474976710656) : mk n n z x = x := by
  unfold mk; rw [if_pos rfl, if_pos]; simp only [Bool.and_eq_true, decide_eq_true_eq]; exact ⟨h0, Nat.ble_eq_true_of_le h1⟩
theorem ap_ok {xs ys : List α} {z : Nat} {f : List α → Option R} (h : (xs.length + ys.length) * z ≤ 140737488355328) : ap xs ys z f = f (xs ++ ys) := by
  unfold ap; rw [if_pos h]
theorem nz_ok {b : Int} {x : Option R} (h : b ≠ 0) : nz b x = x := by unfold nz; rw [if_neg h]
theorem rd_nat {xs : List α} {n : Nat} {z : α} : rd xs (n : Int) z = xs.getD n z := rfl
theorem upd_nat {xs : List α} {n : Nat} {v : α} : upd xs (n : Int) v = xs.set n v := rfl
theorem upd_len {xs : List α} {j : Int} {v : α} : (upd xs j v).length = xs.length := by simp [upd]
theorem bif_t {x y : α} {p : Prop} [Decidable p] (h : p) : (bif decide p then x else y) = x := by simp [h]
theorem bif_f {x y : α} {p : Prop} [Decidable p] (h : ¬ p) : (bif decide p then x else y) = y := by simp [h]
theorem mn_eq (x y : Int) : mn x y = min x y := by unfold mn; omega
theorem mx_eq (x y : Int) : mx x y = max x y := by unfold mx; omega
theorem clone_eq {e : TypeId} {t : Ty} {lim : Nat} {k : Nat} {xs : List t.D} (h : xs.length * lim ≤ 140737488355328) : cloneSem lim e t k (xs, ()) = some ((xs, ()), ()) := by
  unfold cloneSem; rw [lenL_eq, if_pos h]; rfl
end
end Go.Proofs.Ytnlfdfjkgaanjaa.Ab
