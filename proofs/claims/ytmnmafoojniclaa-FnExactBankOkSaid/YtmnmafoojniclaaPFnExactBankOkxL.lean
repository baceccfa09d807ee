-- written by xprint.py for this seat
import Derived.Test.YtmnmafoojniclaaPFnExactBankOkx0
import Derived.Test.YtmnmafoojniclaaXOpen
import Derived.Test.YtmnmafoojniclaaPFnExactBankOkx2
namespace Go.Proofs.Ytmnmafoojniclaa.PFnExactBankOk
open Go.RowKit Go.Proofs.YtmnmafoojniclaaW.PrintWords Go.Proofs.YtmnmafoojniclaaW.PrintLast Go.Proofs.YtmnmafoojniclaaW.PrintMore
attribute [local go_sem] max2_int min2_int max_two min_two max_three min_three max_four min_four   -- for this text's walks alone
set_option linter.unusedVariables false
set_option linter.unusedSimpArgs false

open Go.Proofs.Ytmnmafoojniclaa.XOpen
def g77 : S77 → Prop := fun x_ => (fun n_ : Int => (Lit.int .i64 n_).wf = true) x_.f0 ∧ (fun l_ : List Int => l_.length ≤ maxLen ∧ ∀ x_ ∈ l_, (fun n_ : Int => (Lit.int .i64 n_).wf = true) x_) x_.f1 ∧ (fun n_ : Int => (Lit.int .i64 n_).wf = true) x_.f2
theorem opens77 : Opens Try.prog 77 k77 g77 := opens_struct (β := S77) (f := fun x_ => (x_.f0, x_.f1, x_.f2)) (fun p_ => ⟨p_.1, p_.2.1, p_.2.2⟩) (fun _ => rfl) Try.underlying77 (by kernel_rfl) (opensL_cons rfl (by kernel_rfl) rfl (opens_int Try.underlying3) (opensL_cons rfl (by kernel_rfl) rfl (opens_slice Try.underlying49 (by kernel_rfl) (opens_int Try.underlying3)) (opensL_one rfl (by kernel_rfl) (opens_int Try.underlying3))))
/-- What is left to be proved of laws_FnExactBankOk, over numbers and lists. -/
def laws_FnExactBankOk.Pure : Prop := ∀ (a0_0 : Int) (l0_1 : List Int) (a0_2 : Int), g77 (⟨a0_0, l0_1, a0_2⟩ : S77) → ∃ k, laws_FnExactBankOk.f k a0_0 l0_1 a0_2 = some true
end Go.Proofs.Ytmnmafoojniclaa.PFnExactBankOk
