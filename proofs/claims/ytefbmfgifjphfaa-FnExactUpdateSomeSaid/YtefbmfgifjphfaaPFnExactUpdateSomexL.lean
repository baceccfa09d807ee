-- written by xprint.py for this seat
import Derived.Test.YtefbmfgifjphfaaPFnExactUpdateSomex0
import Derived.Test.YtefbmfgifjphfaaXOpen
import Derived.Test.YtefbmfgifjphfaaPFnExactUpdateSomex8
namespace Go.Proofs.Ytefbmfgifjphfaa.PFnExactUpdateSome
open Go.RowKit Go.Proofs.YtefbmfgifjphfaaW.PrintWords Go.Proofs.YtefbmfgifjphfaaW.PrintLast Go.Proofs.YtefbmfgifjphfaaW.PrintMore
attribute [local go_sem] max2_int min2_int max_two min_two max_three min_three max_four min_four   -- for this text's walks alone
set_option linter.unusedVariables false
set_option linter.unusedSimpArgs false

open Go.Proofs.Ytefbmfgifjphfaa.XOpen
def g36 : S36 → Prop := fun x_ => (fun n_ : Int => (Lit.int .i64 n_).wf = true) x_.f0 ∧ (fun l_ : List Int => l_.length ≤ maxLen ∧ ∀ x_ ∈ l_, (fun n_ : Int => (Lit.int .i64 n_).wf = true) x_) x_.f1 ∧ (fun n_ : Int => (Lit.int .i64 n_).wf = true) x_.f2
theorem opens36 : Opens Try.prog 36 k36 g36 := opens_struct (β := S36) (f := fun x_ => (x_.f0, x_.f1, x_.f2)) (fun p_ => ⟨p_.1, p_.2.1, p_.2.2⟩) (fun _ => rfl) Try.underlying36 (by kernel_rfl) (opensL_cons rfl (by kernel_rfl) rfl (opens_int Try.underlying3) (opensL_cons rfl (by kernel_rfl) rfl (opens_slice Try.underlying24 (by kernel_rfl) (opens_int Try.underlying3)) (opensL_one rfl (by kernel_rfl) (opens_int Try.underlying3))))
def g38 : S38 → Prop := fun x_ => (fun n_ : Int => (Lit.int .i64 n_).wf = true) x_.f0 ∧ g36 x_.f1 ∧ g36 x_.f2
theorem opens38 : Opens Try.prog 38 k38 g38 := opens_struct (β := S38) (f := fun x_ => (x_.f0, x_.f1, x_.f2)) (fun p_ => ⟨p_.1, p_.2.1, p_.2.2⟩) (fun _ => rfl) Try.underlying38 (by kernel_rfl) (opensL_cons rfl (by kernel_rfl) rfl (opens_int Try.underlying3) (opensL_cons rfl (by kernel_rfl) rfl opens36 (opensL_one rfl (by kernel_rfl) opens36)))
/-- What is left to be proved of laws_FnExactUpdateSome, over numbers and lists. -/
def laws_FnExactUpdateSome.Pure : Prop := ∀ (a0_0 : Int) (a0_1 : Int) (l0_2 : List Int) (a0_3 : Int) (a0_4 : Int) (l0_5 : List Int) (a0_6 : Int) (a1 : Int) (l2 : List Int) (a3 : Int), g38 (⟨a0_0, (⟨a0_1, l0_2, a0_3⟩ : S36), (⟨a0_4, l0_5, a0_6⟩ : S36)⟩ : S38) → (fun n_ : Int => (Lit.int .i64 n_).wf = true) a1 → (fun l_ : List Int => l_.length ≤ maxLen ∧ ∀ x_ ∈ l_, (fun n_ : Int => (Lit.int .i64 n_).wf = true) x_) l2 → (fun n_ : Int => (Lit.int .i64 n_).wf = true) a3 → ∃ k, laws_FnExactUpdateSome.f k a0_0 a0_1 l0_2 a0_3 a0_4 l0_5 a0_6 a1 l2 a3 = some true
end Go.Proofs.Ytefbmfgifjphfaa.PFnExactUpdateSome
