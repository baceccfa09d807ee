-- written by xprint.py for this seat
import Derived.Test.YtmnmafoojniclaaPFnExactReceivex0
import Derived.Test.YtmnmafoojniclaaXOpen
import Derived.Test.YtmnmafoojniclaaPFnExactReceivex5
namespace Go.Proofs.Ytmnmafoojniclaa.PFnExactReceive
open Go.RowKit Go.Proofs.YtmnmafoojniclaaW.PrintWords Go.Proofs.YtmnmafoojniclaaW.PrintLast Go.Proofs.YtmnmafoojniclaaW.PrintMore
attribute [local go_sem] max2_int min2_int max_two min_two max_three min_three max_four min_four   -- for this text's walks alone
set_option linter.unusedVariables false
set_option linter.unusedSimpArgs false

open Go.Proofs.Ytmnmafoojniclaa.XOpen
def g51 : S51 → Prop := fun x_ => (fun l_ : List Int => l_.length ≤ maxLen ∧ ∀ x_ ∈ l_, (fun n_ : Int => (Lit.int .i64 n_).wf = true) x_) x_.f0
theorem opens51 : Opens Try.prog 51 k51 g51 := opens_struct (β := S51) (f := fun x_ => (x_.f0)) (fun p_ => ⟨p_⟩) (fun _ => rfl) Try.underlying51 (by kernel_rfl) (opensL_one rfl (by kernel_rfl) (opens_slice Try.underlying49 (by kernel_rfl) (opens_int Try.underlying3)))
def g66 : S66 → Prop := fun x_ => (fun n_ : Int => (Lit.int .i64 n_).wf = true) x_.f0 ∧ (fun n_ : Int => (Lit.int .i64 n_).wf = true) x_.f1
theorem opens66 : Opens Try.prog 66 k66 g66 := opens_struct (β := S66) (f := fun x_ => (x_.f0, x_.f1)) (fun p_ => ⟨p_.1, p_.2⟩) (fun _ => rfl) Try.underlying66 (by kernel_rfl) (opensL_cons rfl (by kernel_rfl) rfl (opens_int Try.underlying3) (opensL_one rfl (by kernel_rfl) (opens_int Try.underlying3)))
/-- What is left to be proved of laws_FnExactReceive, over numbers and lists. -/
def laws_FnExactReceive.Pure : Prop := ∀ (l0_0 : List Int) (a1_0 : Int) (a1_1 : Int), g51 (⟨l0_0⟩ : S51) → g66 (⟨a1_0, a1_1⟩ : S66) → ∃ k, laws_FnExactReceive.f k l0_0 a1_0 a1_1 = some true
end Go.Proofs.Ytmnmafoojniclaa.PFnExactReceive
