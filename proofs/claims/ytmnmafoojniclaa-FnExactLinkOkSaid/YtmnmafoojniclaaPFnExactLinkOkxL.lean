-- written by xprint.py for this seat
import Derived.Test.YtmnmafoojniclaaPFnExactLinkOkx0
import Derived.Test.YtmnmafoojniclaaXOpen
import Derived.Test.YtmnmafoojniclaaPFnExactLinkOkx4
namespace Go.Proofs.Ytmnmafoojniclaa.PFnExactLinkOk
open Go.RowKit Go.Proofs.YtmnmafoojniclaaW.PrintWords Go.Proofs.YtmnmafoojniclaaW.PrintLast Go.Proofs.YtmnmafoojniclaaW.PrintMore
attribute [local go_sem] max2_int min2_int max_two min_two max_three min_three max_four min_four   -- for this text's walks alone
set_option linter.unusedVariables false
set_option linter.unusedSimpArgs false

open Go.Proofs.Ytmnmafoojniclaa.XOpen
def g51 : S51 → Prop := fun x_ => (fun l_ : List Int => l_.length ≤ maxLen ∧ ∀ x_ ∈ l_, (fun n_ : Int => (Lit.int .i64 n_).wf = true) x_) x_.f0
theorem opens51 : Opens Try.prog 51 k51 g51 := opens_struct (β := S51) (f := fun x_ => (x_.f0)) (fun p_ => ⟨p_⟩) (fun _ => rfl) Try.underlying51 (by kernel_rfl) (opensL_one rfl (by kernel_rfl) (opens_slice Try.underlying49 (by kernel_rfl) (opens_int Try.underlying3)))
def g53 : S53 → Prop := fun x_ => (fun n_ : Int => (Lit.int .i64 n_).wf = true) x_.f0 ∧ g51 x_.f1
theorem opens53 : Opens Try.prog 53 k53 g53 := opens_struct (β := S53) (f := fun x_ => (x_.f0, x_.f1)) (fun p_ => ⟨p_.1, p_.2⟩) (fun _ => rfl) Try.underlying53 (by kernel_rfl) (opensL_cons rfl (by kernel_rfl) rfl (opens_int Try.underlying3) (opensL_one rfl (by kernel_rfl) opens51))
/-- What is left to be proved of laws_FnExactLinkOk, over numbers and lists. -/
def laws_FnExactLinkOk.Pure : Prop := ∀ (l0 : List Int) (a1_0 : Int) (l1_1 : List Int), (fun l_ : List Int => l_.length ≤ maxLen ∧ ∀ x_ ∈ l_, (fun n_ : Int => (Lit.int .i64 n_).wf = true) x_) l0 → g53 (⟨a1_0, (⟨l1_1⟩ : S51)⟩ : S53) → ∃ k, laws_FnExactLinkOk.f k l0 a1_0 l1_1 = some true
end Go.Proofs.Ytmnmafoojniclaa.PFnExactLinkOk
