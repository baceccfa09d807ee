-- written by xprint.py for this seat
import Derived.Test.YtniiebpibdkgjaaPFnExactFinishTicksx0
import Derived.Test.YtniiebpibdkgjaaXOpen
import Derived.Test.YtniiebpibdkgjaaPFnExactFinishTicksx7
namespace Go.Proofs.Ytniiebpibdkgjaa.PFnExactFinishTicks
open Go.RowKit Go.Proofs.YtniiebpibdkgjaaW.PrintWords Go.Proofs.YtniiebpibdkgjaaW.PrintLast Go.Proofs.YtniiebpibdkgjaaW.PrintMore
attribute [local go_sem] max2_int min2_int max_two min_two max_three min_three max_four min_four   -- for this text's walks alone
set_option linter.unusedVariables false
set_option linter.unusedSimpArgs false

open Go.Proofs.Ytniiebpibdkgjaa.XOpen
def g47 : S47 → Prop := fun x_ => (fun n_ : Int => (Lit.int .i64 n_).wf = true) x_.f0 ∧ (fun n_ : Int => (Lit.int .i64 n_).wf = true) x_.f1 ∧ (fun n_ : Int => (Lit.int .i64 n_).wf = true) x_.f2
theorem opens47 : Opens Try.prog 47 k47 g47 := opens_struct (β := S47) (f := fun x_ => (x_.f0, x_.f1, x_.f2)) (fun p_ => ⟨p_.1, p_.2.1, p_.2.2⟩) (fun _ => rfl) Try.underlying47 (by kernel_rfl) (opensL_cons rfl (by kernel_rfl) rfl (opens_int Try.underlying3) (opensL_cons rfl (by kernel_rfl) rfl (opens_int Try.underlying3) (opensL_one rfl (by kernel_rfl) (opens_int Try.underlying3))))
/-- What is left to be proved of laws_FnExactFinishTicks, over numbers and lists. -/
def laws_FnExactFinishTicks.Pure : Prop := ∀ (l0 : List (S47)) (l1 : List Int), (fun l_ : List (S47) => l_.length ≤ maxLen ∧ ∀ x_ ∈ l_, g47 x_) l0 → (fun l_ : List Int => l_.length ≤ maxLen ∧ ∀ x_ ∈ l_, (fun n_ : Int => (Lit.int .i64 n_).wf = true) x_) l1 → ∃ k, laws_FnExactFinishTicks.f k l0 l1 = some true
end Go.Proofs.Ytniiebpibdkgjaa.PFnExactFinishTicks
