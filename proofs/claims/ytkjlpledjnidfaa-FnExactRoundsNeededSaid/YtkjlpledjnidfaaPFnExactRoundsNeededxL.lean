-- written by xprint.py for this seat
import Derived.Test.YtkjlpledjnidfaaPFnExactRoundsNeededx0
import Derived.Test.YtkjlpledjnidfaaXOpen
import Derived.Test.YtkjlpledjnidfaaPFnExactRoundsNeededx4
namespace Go.Proofs.Ytkjlpledjnidfaa.PFnExactRoundsNeeded
open Go.RowKit Go.Proofs.YtkjlpledjnidfaaW.PrintWords Go.Proofs.YtkjlpledjnidfaaW.PrintLast Go.Proofs.YtkjlpledjnidfaaW.PrintMore
attribute [local go_sem] max2_int min2_int max_two min_two max_three min_three max_four min_four   -- for this text's walks alone
set_option linter.unusedVariables false
set_option linter.unusedSimpArgs false

open Go.Proofs.Ytkjlpledjnidfaa.XOpen
def g61 : S61 → Prop := fun x_ => (fun l_ : List Int => l_.length ≤ maxLen ∧ ∀ x_ ∈ l_, (fun n_ : Int => (Lit.int .i64 n_).wf = true) x_) x_.f0
theorem opens61 : Opens Try.prog 61 k61 g61 := opens_struct (β := S61) (f := fun x_ => (x_.f0)) (fun p_ => ⟨p_⟩) (fun _ => rfl) Try.underlying61 (by kernel_rfl) (opensL_one rfl (by kernel_rfl) (opens_slice Try.underlying26 (by kernel_rfl) (opens_int Try.underlying3)))
def g63 : S63 → Prop := fun x_ => (fun n_ : Int => (Lit.int .i64 n_).wf = true) x_.f0 ∧ g61 x_.f1
theorem opens63 : Opens Try.prog 63 k63 g63 := opens_struct (β := S63) (f := fun x_ => (x_.f0, x_.f1)) (fun p_ => ⟨p_.1, p_.2⟩) (fun _ => rfl) Try.underlying63 (by kernel_rfl) (opensL_cons rfl (by kernel_rfl) rfl (opens_int Try.underlying3) (opensL_one rfl (by kernel_rfl) opens61))
/-- What is left to be proved of laws_FnExactRoundsNeeded, over numbers and lists. -/
def laws_FnExactRoundsNeeded.Pure : Prop := ∀ (l0 : List Int) (a1_0 : Int) (l1_1 : List Int), (fun l_ : List Int => l_.length ≤ maxLen ∧ ∀ x_ ∈ l_, (fun n_ : Int => (Lit.int .i64 n_).wf = true) x_) l0 → g63 (⟨a1_0, (⟨l1_1⟩ : S61)⟩ : S63) → ∃ k, laws_FnExactRoundsNeeded.f k l0 a1_0 l1_1 = some true
end Go.Proofs.Ytkjlpledjnidfaa.PFnExactRoundsNeeded
