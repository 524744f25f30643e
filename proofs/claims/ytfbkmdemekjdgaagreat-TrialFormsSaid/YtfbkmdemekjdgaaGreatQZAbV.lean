import Derived.Test.YtfbkmdemekjdgaaGreatPbC
import Derived.Test.YtfbkmdemekjdgaaGreatAbV0
import Derived.Test.YtfbkmdemekjdgaaGreatAbV1
import Derived.Test.YtfbkmdemekjdgaaGreatAbV2
import Derived.KernelRfl
/- The plain law, and what it hangs on. -/
/- Small laws of lists, of loops with a counter, of searches, of arrays as lists. -/
namespace Go.Proofs.YtfbkmdemekjdgaaGreat.Ab
open Go.RowKit
set_option linter.unusedSimpArgs false
set_option linter.unusedVariables false
section
variable {σ R α : Type}
end
end Go.Proofs.YtfbkmdemekjdgaaGreat.Ab

/- What one run of two tasks is, tick by tick: a closed law, reckoned. -/
namespace Go.Proofs.YtfbkmdemekjdgaaGreat.Ab
open Go.RowKit
set_option linter.unusedSimpArgs false
set_option linter.unusedVariables false
theorem trialForms_pure {k : Nat} (hk : 20000 ≤ k) : S3 k = some ((true, ()), ()) := by
 obtain ⟨k, rfl⟩ : ∃ m, k = m + 20000 := ⟨k - 20000, by omega⟩
 kernel_rfl
theorem trialForms_law : ∃ k, S3 k = some ((true, ()), ()) := ⟨20000, trialForms_pure (by omega)⟩
end Go.Proofs.YtfbkmdemekjdgaaGreat.Ab
