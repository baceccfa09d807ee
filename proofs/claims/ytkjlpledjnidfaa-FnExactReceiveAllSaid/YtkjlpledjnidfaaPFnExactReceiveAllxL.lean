-- written by xprint.py for this seat
import Derived.Test.YtkjlpledjnidfaaPFnExactReceiveAllx0
import Derived.Test.YtkjlpledjnidfaaXOpen
import Derived.Test.YtkjlpledjnidfaaPFnExactReceiveAllx5
namespace Go.Proofs.Ytkjlpledjnidfaa.PFnExactReceiveAll
open Go.RowKit Go.Proofs.YtkjlpledjnidfaaW.PrintWords Go.Proofs.YtkjlpledjnidfaaW.PrintLast Go.Proofs.YtkjlpledjnidfaaW.PrintMore
attribute [local go_sem] max2_int min2_int max_two min_two max_three min_three max_four min_four   -- for this text's walks alone
set_option linter.unusedVariables false
set_option linter.unusedSimpArgs false

open Go.Proofs.Ytkjlpledjnidfaa.XOpen
def g61 : S61 → Prop := fun x_ => (fun l_ : List Int => l_.length ≤ maxLen ∧ ∀ x_ ∈ l_, (fun n_ : Int => (Lit.int .i64 n_).wf = true) x_) x_.f0
theorem opens61 : Opens Try.prog 61 k61 g61 := opens_struct (β := S61) (f := fun x_ => (x_.f0)) (fun p_ => ⟨p_⟩) (fun _ => rfl) Try.underlying61 (by kernel_rfl) (opensL_one rfl (by kernel_rfl) (opens_slice Try.underlying26 (by kernel_rfl) (opens_int Try.underlying3)))
def g145 : S145 → Prop := fun x_ => (fun n_ : Int => (Lit.int .i64 n_).wf = true) x_.f0 ∧ (fun n_ : Int => (Lit.int .i64 n_).wf = true) x_.f1
theorem opens145 : Opens Try.prog 145 k145 g145 := opens_struct (β := S145) (f := fun x_ => (x_.f0, x_.f1)) (fun p_ => ⟨p_.1, p_.2⟩) (fun _ => rfl) Try.underlying145 (by kernel_rfl) (opensL_cons rfl (by kernel_rfl) rfl (opens_int Try.underlying3) (opensL_one rfl (by kernel_rfl) (opens_int Try.underlying3)))
/-- What is left to be proved of laws_FnExactReceiveAll, over numbers and lists. -/
def laws_FnExactReceiveAll.Pure : Prop := ∀ (l0_0 : List Int) (l1 : List (S145)) (l2 : List Bool), g61 (⟨l0_0⟩ : S61) → (fun l_ : List (S145) => l_.length ≤ maxLen ∧ ∀ x_ ∈ l_, g145 x_) l1 → (fun l_ : List Bool => l_.length ≤ maxLen ∧ ∀ x_ ∈ l_, (fun _ : Bool => True) x_) l2 → ∃ k, laws_FnExactReceiveAll.f k l0_0 l1 l2 = some true
end Go.Proofs.Ytkjlpledjnidfaa.PFnExactReceiveAll
