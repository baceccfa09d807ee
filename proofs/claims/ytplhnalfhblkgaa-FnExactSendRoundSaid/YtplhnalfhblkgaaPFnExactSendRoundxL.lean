-- written by xprint.py for this seat
import Derived.Test.YtplhnalfhblkgaaPFnExactSendRoundx0
import Derived.Test.YtplhnalfhblkgaaXOpen
import Derived.Test.YtplhnalfhblkgaaPFnExactSendRoundx9
namespace Go.Proofs.Ytplhnalfhblkgaa.PFnExactSendRound
open Go.RowKit Go.Proofs.YtplhnalfhblkgaaW.PrintWords Go.Proofs.YtplhnalfhblkgaaW.PrintLast Go.Proofs.YtplhnalfhblkgaaW.PrintMore
attribute [local go_sem] max2_int min2_int max_two min_two max_three min_three max_four min_four   -- for this text's walks alone
set_option linter.unusedVariables false
set_option linter.unusedSimpArgs false

open Go.Proofs.Ytplhnalfhblkgaa.XOpen
def g70 : S70 → Prop := fun x_ => (fun l_ : List Int => l_.length ≤ maxLen ∧ ∀ x_ ∈ l_, (fun n_ : Int => (Lit.int .i64 n_).wf = true) x_) x_.f0
theorem opens70 : Opens Try.prog 70 k70 g70 := opens_struct (β := S70) (f := fun x_ => (x_.f0)) (fun p_ => ⟨p_⟩) (fun _ => rfl) Try.underlying70 (by kernel_rfl) (opensL_one rfl (by kernel_rfl) (opens_slice Try.underlying22 (by kernel_rfl) (opens_int Try.underlying3)))
def g72 : S72 → Prop := fun x_ => (fun n_ : Int => (Lit.int .i64 n_).wf = true) x_.f0 ∧ g70 x_.f1
theorem opens72 : Opens Try.prog 72 k72 g72 := opens_struct (β := S72) (f := fun x_ => (x_.f0, x_.f1)) (fun p_ => ⟨p_.1, p_.2⟩) (fun _ => rfl) Try.underlying72 (by kernel_rfl) (opensL_cons rfl (by kernel_rfl) rfl (opens_int Try.underlying3) (opensL_one rfl (by kernel_rfl) opens70))
/-- What is left to be proved of laws_FnExactSendRound, over numbers and lists. -/
def laws_FnExactSendRound.Pure : Prop := ∀ (l0 : List Int) (a1_0 : Int) (l1_1 : List Int) (l2 : List Bool) (a3 : Bool), (fun l_ : List Int => l_.length ≤ maxLen ∧ ∀ x_ ∈ l_, (fun n_ : Int => (Lit.int .i64 n_).wf = true) x_) l0 → g72 (⟨a1_0, (⟨l1_1⟩ : S70)⟩ : S72) → (fun l_ : List Bool => l_.length ≤ maxLen ∧ ∀ x_ ∈ l_, (fun _ : Bool => True) x_) l2 → ∃ k, laws_FnExactSendRound.f k l0 a1_0 l1_1 l2 a3 = some true
end Go.Proofs.Ytplhnalfhblkgaa.PFnExactSendRound
