import Derived.Test.YtjemccmhbjfnaaaGreatPbC
import Derived.Test.YtjemccmhbjfnaaaGreatAbV0
import Derived.Test.YtjemccmhbjfnaaaGreatAbV1
import Derived.KernelRfl
/- The plain law, and what it hangs on. -/
/- Small laws of lists, of loops with a counter, of searches, of arrays as lists. -/
namespace Go.Proofs.YtjemccmhbjfnaaaGreat.Ab
open Go.RowKit
set_option linter.unusedSimpArgs false
set_option linter.unusedVariables false
section
variable {σ R α : Type}
end
end Go.Proofs.YtjemccmhbjfnaaaGreat.Ab

/- What some calls are told: a closed law, reckoned. -/
namespace Go.Proofs.YtjemccmhbjfnaaaGreat.Ab
open Go.RowKit
set_option linter.unusedSimpArgs false
set_option linter.unusedVariables false
theorem callForms_pure {k : Nat} (hk : 20000 ≤ k) : S3 k = some ((true, ()), ()) := by
 obtain ⟨k, rfl⟩ : ∃ m, k = m + 20000 := ⟨k - 20000, by omega⟩
 kernel_rfl
theorem callForms_law : ∃ k, S3 k = some ((true, ()), ()) := ⟨20000, callForms_pure (by omega)⟩
end Go.Proofs.YtjemccmhbjfnaaaGreat.Ab
