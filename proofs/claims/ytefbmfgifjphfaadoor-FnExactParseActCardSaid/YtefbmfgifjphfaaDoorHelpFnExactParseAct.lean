/- What the law FnExactParseAct's helper functions (they copy, compare, mark) come to. Conditions: as each lemma says. -/
import Derived.Test.YtefbmfgifjphfaaDoorPFnExactParseActxL
import Derived.Test.YtefbmfgifjphfaaDoorXPure
namespace Go.Proofs.YtefbmfgifjphfaaDoor.PureFnExactParseAct
open Go.RowKit Go.Proofs.YtefbmfgifjphfaaDoor.PFnExactParseAct Go.Proofs.YtefbmfgifjphfaaDoor.XPure Go.Proofs.YtefbmfgifjphfaaDoorW.PrintWords Go.Proofs.YtefbmfgifjphfaaDoorW.PrintLast Go.Proofs.YtefbmfgifjphfaaDoorW.PrintMore
set_option linter.unusedSimpArgs false
set_option linter.unusedVariables false
def inB (a b c : Int) : Bool := decide (a ≥ b) && decide (a ≤ c)
theorem in_f (a b c : Int) : spec_l01In.f a b c = some (inB a b c) := by
  unfold spec_l01In.f inB
  by_cases h : a ≥ b
  · rw [if_pos h, decide_eq_true h, Bool.true_and]
  · rw [if_neg h, decide_eq_false h, Bool.false_and]
theorem within_f (a b c : Int) : impl_within.f a b c = some (inB a b c) := in_f a b c
theorem specIsValue_f (x : Int) : spec_IsValue.f x = some (inB x (-1000000) 1000000) := by
  simp only [spec_IsValue.f, in_f, Option.bind_some]
theorem implIsValue_f (x : Int) : impl_IsValue.f x = some (inB x (-1000000) 1000000) := by
  simp only [impl_IsValue.f, within_f, Option.bind_some]
end Go.Proofs.YtefbmfgifjphfaaDoor.PureFnExactParseAct
