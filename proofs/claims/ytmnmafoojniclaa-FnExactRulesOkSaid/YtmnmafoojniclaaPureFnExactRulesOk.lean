/- The law FnExactRulesOk in plain lists: the program and the reference accept the same rules, and the argument is left as it was. Conditions: none beside those of the row. -/
import Derived.Test.YtmnmafoojniclaaHelpFnExactRulesOk
namespace Go.Proofs.Ytmnmafoojniclaa.Pure
open Go.RowKit Go.Proofs.Ytmnmafoojniclaa.PFnExactRulesOk Go.Proofs.Ytmnmafoojniclaa.XPure Go.Proofs.Ytmnmafoojniclaa.PureFnExactRulesOk Go.Proofs.YtmnmafoojniclaaW.PrintWords
set_option linter.unusedSimpArgs false

theorem FnExactRulesOk : laws_FnExactRulesOk.Pure := by
  intro l hG
  have hl : l.length ≤ 9223372036854775807 := hG.1
  have hw : wrap64 (1048576 - (l.length : Int)) = 1048576 - (l.length : Int) := wrap_in (by omega) (by omega)
  by_cases h : (1048576 - (l.length : Int)) < 0
  · refine ⟨0, ?_⟩
    simp only [laws_FnExactRulesOk.f, laws_szRules.f, laws_szExprS.f, hw, h, Option.bind_some, ↓reduceIte, Int.reduceNeg, Int.reduceLT]
  · refine ⟨l.length + 1, ?_⟩
    have hk : l.length < l.length + 1 := by omega
    have e1 := toExprS_f l (by omega) _ hk
    generalize hl2 : (l.map fun x => (⟨x.f0, x.f1, x.f2⟩ : S121)) = l2 at e1
    have hlen : l2.length = l.length := by rw [← hl2]; simp
    have e2 := eqExprS_f l2 (by omega) _ (by omega : l2.length < l.length + 1)
    have e3 := specRules_f l2 (by omega) _ (by omega : l2.length < l.length + 1)
    have e4 := implRules_f l2 (by omega) _ (by omega : l2.length < l.length + 1)
    simp only [laws_FnExactRulesOk.f, laws_szRules.f, laws_szExprS.f, laws_toRules.f, laws_eqRules.f, hw, h, e1, e2, e3, e4, Option.bind_some, ↓reduceIte, bne_self_eq_false, Bool.false_eq_true]

end Go.Proofs.Ytmnmafoojniclaa.Pure
