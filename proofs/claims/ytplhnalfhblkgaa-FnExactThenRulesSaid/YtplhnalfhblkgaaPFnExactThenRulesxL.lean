-- written by xprint.py for this seat
import Derived.Test.YtplhnalfhblkgaaPFnExactThenRulesx0
import Derived.Test.YtplhnalfhblkgaaXOpen
import Derived.Test.YtplhnalfhblkgaaPFnExactThenRulesx6
namespace Go.Proofs.Ytplhnalfhblkgaa.PFnExactThenRules
open Go.RowKit Go.Proofs.YtplhnalfhblkgaaW.PrintWords Go.Proofs.YtplhnalfhblkgaaW.PrintLast Go.Proofs.YtplhnalfhblkgaaW.PrintMore
attribute [local go_sem] max2_int min2_int max_two min_two max_three min_three max_four min_four   -- for this text's walks alone
set_option linter.unusedVariables false
set_option linter.unusedSimpArgs false

open Go.Proofs.Ytplhnalfhblkgaa.XOpen
def g162 : S162 → Prop := fun x_ => (fun n_ : Int => (Lit.int .i64 n_).wf = true) x_.f0 ∧ (fun n_ : Int => (Lit.int .i64 n_).wf = true) x_.f1 ∧ (fun n_ : Int => (Lit.int .i64 n_).wf = true) x_.f2
theorem opens162 : Opens Try.prog 162 k162 g162 := opens_struct (β := S162) (f := fun x_ => (x_.f0, x_.f1, x_.f2)) (fun p_ => ⟨p_.1, p_.2.1, p_.2.2⟩) (fun _ => rfl) Try.underlying162 (by kernel_rfl) (opensL_cons rfl (by kernel_rfl) rfl (opens_int Try.underlying3) (opensL_cons rfl (by kernel_rfl) rfl (opens_int Try.underlying3) (opensL_one rfl (by kernel_rfl) (opens_int Try.underlying3))))
def g25 : S25 → Prop := fun x_ => (fun l_ : List (S162) => l_.length ≤ maxLen ∧ ∀ x_ ∈ l_, g162 x_) x_.f0
theorem opens25 : Opens Try.prog 25 k25 g25 := opens_struct (β := S25) (f := fun x_ => (x_.f0)) (fun p_ => ⟨p_⟩) (fun _ => rfl) Try.underlying25 (by kernel_rfl) (opensL_one rfl (by kernel_rfl) (opens_slice Try.underlying23 (by kernel_rfl) opens162))
/-- What is left to be proved of laws_FnExactThenRules, over numbers and lists. -/
def laws_FnExactThenRules.Pure : Prop := ∀ (l0_0 : List (S162)) (l1 : List Int) (l2_0 : List (S162)), g25 (⟨l0_0⟩ : S25) → (fun l_ : List Int => l_.length ≤ maxLen ∧ ∀ x_ ∈ l_, (fun n_ : Int => (Lit.int .i64 n_).wf = true) x_) l1 → g25 (⟨l2_0⟩ : S25) → ∃ k, laws_FnExactThenRules.f k l0_0 l1 l2_0 = some true
end Go.Proofs.Ytplhnalfhblkgaa.PFnExactThenRules
