-- written by xprint.py for this seat
import Derived.Test.YtkjlpledjnidfaaPFnMigratesx0
import Derived.Test.YtkjlpledjnidfaaXOpen
import Derived.Test.YtkjlpledjnidfaaPFnMigratesx5
namespace Go.Proofs.Ytkjlpledjnidfaa.PFnMigrates
open Go.RowKit Go.Proofs.YtkjlpledjnidfaaW.PrintWords Go.Proofs.YtkjlpledjnidfaaW.PrintLast Go.Proofs.YtkjlpledjnidfaaW.PrintMore
attribute [local go_sem] max2_int min2_int max_two min_two max_three min_three max_four min_four   -- for this text's walks alone
set_option linter.unusedVariables false
set_option linter.unusedSimpArgs false

open Go.Proofs.Ytkjlpledjnidfaa.XOpen
/-- What is left to be proved of laws_FnMigrates, over numbers and lists. -/
def laws_FnMigrates.Pure : Prop := ∀ (l0 : List Int), (fun l_ : List Int => l_.length ≤ maxLen ∧ ∀ x_ ∈ l_, (fun n_ : Int => (Lit.int .u8 n_).wf = true) x_) l0 → ∃ k, laws_FnMigrates.f k l0 = some true
end Go.Proofs.Ytkjlpledjnidfaa.PFnMigrates
