-- written by xprint.py for this seat
import Derived.Test.YtmnmafoojniclaaPFnExactActOkx0
import Derived.Test.YtmnmafoojniclaaXOpen
import Derived.Test.YtmnmafoojniclaaPFnExactActOkx1
namespace Go.Proofs.Ytmnmafoojniclaa.PFnExactActOk
open Go.RowKit Go.Proofs.YtmnmafoojniclaaW.PrintWords Go.Proofs.YtmnmafoojniclaaW.PrintLast Go.Proofs.YtmnmafoojniclaaW.PrintMore
attribute [local go_sem] max2_int min2_int max_two min_two max_three min_three max_four min_four   -- for this text's walks alone
set_option linter.unusedVariables false
set_option linter.unusedSimpArgs false

open Go.Proofs.Ytmnmafoojniclaa.XOpen
def g23 : S23 → Prop := fun x_ => (fun n_ : Int => (Lit.int .i64 n_).wf = true) x_.f0 ∧ (fun n_ : Int => (Lit.int .i64 n_).wf = true) x_.f1 ∧ (fun n_ : Int => (Lit.int .i64 n_).wf = true) x_.f2
theorem opens23 : Opens Try.prog 23 k23 g23 := opens_struct (β := S23) (f := fun x_ => (x_.f0, x_.f1, x_.f2)) (fun p_ => ⟨p_.1, p_.2.1, p_.2.2⟩) (fun _ => rfl) Try.underlying23 (by kernel_rfl) (opensL_cons rfl (by kernel_rfl) rfl (opens_int Try.underlying3) (opensL_cons rfl (by kernel_rfl) rfl (opens_int Try.underlying3) (opensL_one rfl (by kernel_rfl) (opens_int Try.underlying3))))
/-- What is left to be proved of laws_FnExactActOk, over numbers and lists. -/
def laws_FnExactActOk.Pure : Prop := ∀ (a0_0 : Int) (a0_1 : Int) (a0_2 : Int), g23 (⟨a0_0, a0_1, a0_2⟩ : S23) → laws_FnExactActOk.f a0_0 a0_1 a0_2 = some true
end Go.Proofs.Ytmnmafoojniclaa.PFnExactActOk
