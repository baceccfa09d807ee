-- written by xprint.py for this seat
import Derived.Test.YtmnmafoojniclaaPFnExactRulesOkx0
import Derived.Test.YtmnmafoojniclaaXOpen
import Derived.Test.YtmnmafoojniclaaPFnExactRulesOkx2
namespace Go.Proofs.Ytmnmafoojniclaa.PFnExactRulesOk
open Go.RowKit Go.Proofs.YtmnmafoojniclaaW.PrintWords Go.Proofs.YtmnmafoojniclaaW.PrintLast Go.Proofs.YtmnmafoojniclaaW.PrintMore
attribute [local go_sem] max2_int min2_int max_two min_two max_three min_three max_four min_four   -- for this text's walks alone
set_option linter.unusedVariables false
set_option linter.unusedSimpArgs false

open Go.Proofs.Ytmnmafoojniclaa.XOpen
def g149 : S149 → Prop := fun x_ => (fun n_ : Int => (Lit.int .i64 n_).wf = true) x_.f0 ∧ (fun n_ : Int => (Lit.int .i64 n_).wf = true) x_.f1 ∧ (fun n_ : Int => (Lit.int .i64 n_).wf = true) x_.f2
theorem opens149 : Opens Try.prog 149 k149 g149 := opens_struct (β := S149) (f := fun x_ => (x_.f0, x_.f1, x_.f2)) (fun p_ => ⟨p_.1, p_.2.1, p_.2.2⟩) (fun _ => rfl) Try.underlying149 (by kernel_rfl) (opensL_cons rfl (by kernel_rfl) rfl (opens_int Try.underlying3) (opensL_cons rfl (by kernel_rfl) rfl (opens_int Try.underlying3) (opensL_one rfl (by kernel_rfl) (opens_int Try.underlying3))))
def g44 : S44 → Prop := fun x_ => (fun l_ : List (S149) => l_.length ≤ maxLen ∧ ∀ x_ ∈ l_, g149 x_) x_.f0
theorem opens44 : Opens Try.prog 44 k44 g44 := opens_struct (β := S44) (f := fun x_ => (x_.f0)) (fun p_ => ⟨p_⟩) (fun _ => rfl) Try.underlying44 (by kernel_rfl) (opensL_one rfl (by kernel_rfl) (opens_slice Try.underlying42 (by kernel_rfl) opens149))
/-- What is left to be proved of laws_FnExactRulesOk, over numbers and lists. -/
def laws_FnExactRulesOk.Pure : Prop := ∀ (l0_0 : List (S149)), g44 (⟨l0_0⟩ : S44) → ∃ k, laws_FnExactRulesOk.f k l0_0 = some true
end Go.Proofs.Ytmnmafoojniclaa.PFnExactRulesOk
