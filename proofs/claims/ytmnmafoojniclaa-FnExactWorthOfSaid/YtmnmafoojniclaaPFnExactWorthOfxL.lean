-- written by xprint.py for this seat
import Derived.Test.YtmnmafoojniclaaPFnExactWorthOfx0
import Derived.Test.YtmnmafoojniclaaXOpen
import Derived.Test.YtmnmafoojniclaaPFnExactWorthOfx3
namespace Go.Proofs.Ytmnmafoojniclaa.PFnExactWorthOf
open Go.RowKit Go.Proofs.YtmnmafoojniclaaW.PrintWords Go.Proofs.YtmnmafoojniclaaW.PrintLast Go.Proofs.YtmnmafoojniclaaW.PrintMore
attribute [local go_sem] max2_int min2_int max_two min_two max_three min_three max_four min_four   -- for this text's walks alone
set_option linter.unusedVariables false
set_option linter.unusedSimpArgs false

open Go.Proofs.Ytmnmafoojniclaa.XOpen
def g116 : S116 → Prop := fun x_ => (fun n_ : Int => (Lit.int .i64 n_).wf = true) x_.f0 ∧ (fun n_ : Int => (Lit.int .i64 n_).wf = true) x_.f1
theorem opens116 : Opens Try.prog 116 k116 g116 := opens_struct (β := S116) (f := fun x_ => (x_.f0, x_.f1)) (fun p_ => ⟨p_.1, p_.2⟩) (fun _ => rfl) Try.underlying116 (by kernel_rfl) (opensL_cons rfl (by kernel_rfl) rfl (opens_int Try.underlying3) (opensL_one rfl (by kernel_rfl) (opens_int Try.underlying3)))
/-- What is left to be proved of laws_FnExactWorthOf, over numbers and lists. -/
def laws_FnExactWorthOf.Pure : Prop := ∀ (l0 : List (S116)) (l1 : List Int), (fun l_ : List (S116) => l_.length ≤ maxLen ∧ ∀ x_ ∈ l_, g116 x_) l0 → (fun l_ : List Int => l_.length ≤ maxLen ∧ ∀ x_ ∈ l_, (fun n_ : Int => (Lit.int .i64 n_).wf = true) x_) l1 → ∃ k, laws_FnExactWorthOf.f k l0 l1 = some true
end Go.Proofs.Ytmnmafoojniclaa.PFnExactWorthOf
