-- written by xprint.py for this seat
import Derived.Test.YtkjlpledjnidfaaPFnExactBestChoicex0
import Derived.Test.YtkjlpledjnidfaaXOpen
import Derived.Test.YtkjlpledjnidfaaPFnExactBestChoicex6
namespace Go.Proofs.Ytkjlpledjnidfaa.PFnExactBestChoice
open Go.RowKit Go.Proofs.YtkjlpledjnidfaaW.PrintWords Go.Proofs.YtkjlpledjnidfaaW.PrintLast Go.Proofs.YtkjlpledjnidfaaW.PrintMore
attribute [local go_sem] max2_int min2_int max_two min_two max_three min_three max_four min_four   -- for this text's walks alone
set_option linter.unusedVariables false
set_option linter.unusedSimpArgs false

open Go.Proofs.Ytkjlpledjnidfaa.XOpen
def g150 : S150 → Prop := fun x_ => (fun n_ : Int => (Lit.int .i64 n_).wf = true) x_.f0 ∧ (fun n_ : Int => (Lit.int .i64 n_).wf = true) x_.f1
theorem opens150 : Opens Try.prog 150 k150 g150 := opens_struct (β := S150) (f := fun x_ => (x_.f0, x_.f1)) (fun p_ => ⟨p_.1, p_.2⟩) (fun _ => rfl) Try.underlying150 (by kernel_rfl) (opensL_cons rfl (by kernel_rfl) rfl (opens_int Try.underlying3) (opensL_one rfl (by kernel_rfl) (opens_int Try.underlying3)))
/-- What is left to be proved of laws_FnExactBestChoice, over numbers and lists. -/
def laws_FnExactBestChoice.Pure : Prop := ∀ (l0 : List (S150)) (a1 : Int), (fun l_ : List (S150) => l_.length ≤ maxLen ∧ ∀ x_ ∈ l_, g150 x_) l0 → (fun n_ : Int => (Lit.int .i64 n_).wf = true) a1 → ∃ k, laws_FnExactBestChoice.f k l0 a1 = some true
end Go.Proofs.Ytkjlpledjnidfaa.PFnExactBestChoice
