-- written by xprint.py for this seat
import Derived.Test.YtefbmfgifjphfaaDoorPFnExactScriptTextx0
import Derived.Test.YtefbmfgifjphfaaDoorXOpen
import Derived.Test.YtefbmfgifjphfaaDoorPFnExactScriptTextx5
namespace Go.Proofs.YtefbmfgifjphfaaDoor.PFnExactScriptText
open Go.RowKit Go.Proofs.YtefbmfgifjphfaaDoorW.PrintWords Go.Proofs.YtefbmfgifjphfaaDoorW.PrintLast Go.Proofs.YtefbmfgifjphfaaDoorW.PrintMore
attribute [local go_sem] max2_int min2_int max_two min_two max_three min_three max_four min_four   -- for this text's walks alone
set_option linter.unusedVariables false
set_option linter.unusedSimpArgs false

open Go.Proofs.YtefbmfgifjphfaaDoor.XOpen
def g28 : S28 → Prop := fun x_ => (fun n_ : Int => (Lit.int .i64 n_).wf = true) x_.f0 ∧ (fun n_ : Int => (Lit.int .i64 n_).wf = true) x_.f1 ∧ (fun n_ : Int => (Lit.int .i64 n_).wf = true) x_.f2
theorem opens28 : Opens Tryd.prog 28 k28 g28 := opens_struct (β := S28) (f := fun x_ => (x_.f0, x_.f1, x_.f2)) (fun p_ => ⟨p_.1, p_.2.1, p_.2.2⟩) (fun _ => rfl) Tryd.underlying28 (by kernel_rfl) (opensL_cons rfl (by kernel_rfl) rfl (opens_int Tryd.underlying3) (opensL_cons rfl (by kernel_rfl) rfl (opens_int Tryd.underlying3) (opensL_one rfl (by kernel_rfl) (opens_int Tryd.underlying3))))
/-- What is left to be proved of laws_FnExactScriptText, over numbers and lists. -/
def laws_FnExactScriptText.Pure : Prop := ∀ (l0 : List (S28)), (fun l_ : List (S28) => l_.length ≤ maxLen ∧ ∀ x_ ∈ l_, g28 x_) l0 → ∃ k, laws_FnExactScriptText.f k l0 = some true
end Go.Proofs.YtefbmfgifjphfaaDoor.PFnExactScriptText
